import PyProof.Rows.All
import Wide.All
import OpenK.AllK
import Wide.FinOn
import HandS.ForMost
import HandS.Exc
import HandS.ExcOwn
import HandS.WordsExc
import HandS.TryMany
import HandS.Lambda
import PyProof.CodeObj
import KE.DatumMore
import KE.DatumMoreOrd
import KE.DatumIndex
import KE.SortKeyHeap
import HandS.Deep
import HandS.Text
import PyProof.ListStr
import HandS.RaiseMore
import HandS.Codes
import HandS.TupAny
import HandS.Flow
import HandS.Rev
import HandS.Zip
import HandS.More
import PyProof.CollectStr
import HandS.GenBody
import HandS.AnyAll
import HandS.Keys
import PyProof.ConsumeS
import HandS.HeadHook4
import HandS.HeadWalk
import HandS.Head2
import HandS.ListItems
import PyProof.Draws
import HandS.StrMore
import HandS.Replace
import HandS.Style
import PyProof.SumAny
import PyProof.Rows.SumGenD
import PyProof.InstEq
import HandS.Sort
import HandS.RevTup
import HandS.SetKeys
import PyProof.MaxThree
import KE.GoesMore
import HandS.Conv
import HandS.DictTup
import KE.KDictKeyed
import KE.KDictList
import KE.KDictWalk
import HandS.ExcInit
import HandS.ExcField
import HandS.ExcSuper
import KE.KExcSuper
import PyProof.TupleOfSeq
import KE.KDictPairs
import KE.KDictDisplayH
import HandS.TupLen
import HandS.ReplaceLit
import PyProof.StrLawsFirst
import KE.KIntText
import KE.DataAny
import HandS.ExcCtx
import HandS.SuiteRaise
import KE.KExcIs
import HandS.ExcIs
import PyProof.ZipIter
import PyProof.EnumMake
import HandS.NoneIn
import KE.KDictCopyH
import KE.DataMinKey
import HandS.DictEq
import HandS.Small
import KE.DataCmp
import KE.KSortTup
import PySem.Challenge.RW_spellhall_k08_grams
set_option Elab.async false
set_option linter.all false
set_option maxRecDepth 100000
set_option maxHeartbeats 4000000
namespace Sp
open PySem L2
structure WE (X : Cx) (e : Expr) (σ : St) (H : Hp) (Q : VK) : Prop where
  run : ∀ (pins : List (Addr × Obj)) (s : Shared), Inv X pins σ H s → wpAny (model X.prog X.w) X.A (eval e X.env) (EP X pins σ Q) X.xe s
structure WT (X : Cx) (e : Expr) (σ : St) (H : Hp) (Q : Bool → Hp → Prop) : Prop where
  run : ∀ (pins : List (Addr × Obj)) (s : Shared), Inv X pins σ H s → wpAny (model X.prog X.w) X.A (isTrue e X.env (eval e X.env)) (TP X pins σ Q) X.xe s
structure WA (X : Cx) (es : List Expr) (σ : St) (H : Hp) (Q : List V → Hp → Prop) : Prop where
  run : ∀ (pos : Pos) (pins : List (Addr × Obj)) (s : Shared), Inv X pins σ H s → wpAny (model X.prog X.w) X.A (spliced (backTo pos (starEach es X.env))) (AP X pins σ Q) X.xe s
structure WS (X : Cx) (st : List Stmt) (σ : St) (H : Hp) (D : Ends) : Prop where
  run : ∀ (pins : List (Addr × Obj)) (s : Shared), Inv X pins σ H s → wpAny (model X.prog X.w) X.A (execs st X.env) (SP X pins D) X.xe s
section
variable {X : Cx} {e : Expr} {es : List Expr} {st : List Stmt} {σ : St} {H : Hp}
theorem pe_we : PE X e (WE X e) := ⟨fun pins s _ _ _ I h => h.run pins s I⟩
theorem pt_wt : PT X e (WT X e) := ⟨fun pins s _ _ _ I h => h.run pins s I⟩
theorem pa_wa : PA X es (WA X es) := ⟨fun pos pins s _ _ _ I h => h.run pos pins s I⟩
theorem pss_ws : PSs X st (fun D σ H => WS X st σ H D) := ⟨fun pins s _ _ _ I h => h.run pins s I⟩
theorem WE.of {t : TE} {Q : VK} (p : PE X e t) (h : t σ H Q) : WE X e σ H Q := ⟨fun pins s I => p.run pins s σ H Q I h⟩
theorem WT.of {t : TT} {Q : Bool → Hp → Prop} (p : PT X e t) (h : t σ H Q) : WT X e σ H Q := ⟨fun pins s I => p.run pins s σ H Q I h⟩
theorem WA.of {t : TA} {Q : List V → Hp → Prop} (p : PA X es t) (h : t σ H Q) : WA X es σ H Q := ⟨fun pos pins s I => p.run pos pins s σ H Q I h⟩
theorem WS.of {t : TS} {D : Ends} (p : PSs X st t) (h : t D σ H) : WS X st σ H D := ⟨fun pins s I => p.run pins s σ H D I h⟩
theorem WE.mono {Q Q' : VK} (h : WE X e σ H Q) (k : ∀ v H', Q v H' → Q' v H') : WE X e σ H Q' :=
  ⟨fun pins s I => thn (h.run pins s I) fun _ _ ⟨v, H', J, r, q⟩ => ⟨v, H', J, r, k v H' q⟩⟩
theorem WT.mono {Q Q' : Bool → Hp → Prop} (h : WT X e σ H Q) (k : ∀ b H', Q b H' → Q' b H') : WT X e σ H Q' :=
  ⟨fun pins s I => thn (h.run pins s I) fun b _ ⟨H', J, q⟩ => ⟨H', J, k b H' q⟩⟩
theorem WA.mono {Q Q' : List V → Hp → Prop} (h : WA X es σ H Q) (k : ∀ v H', Q v H' → Q' v H') : WA X es σ H Q' :=
  ⟨fun pos pins s I => thn (h.run pos pins s I) fun _ _ ⟨v, H', J, r, q⟩ => ⟨v, H', J, r, k v H' q⟩⟩
theorem WS.mono {D D' : Ends} (h : WS X st σ H D) (k1 : ∀ σ' H', D.nx σ' H' → D'.nx σ' H') (k2 : ∀ v H', D.rt v H' → D'.rt v H') (k3 : ∀ σ' H', D.bk σ' H' → D'.bk σ' H') (k4 : ∀ σ' H', D.ct σ' H' → D'.ct σ' H') : WS X st σ H D' :=
  ⟨fun pins s I => thn (h.run pins s I) fun f s' q => by
    cases f with
    | next => obtain ⟨σ', H', J, q⟩ := q; exact ⟨σ', H', J, k1 _ _ q⟩
    | brk => obtain ⟨σ', H', J, q⟩ := q; exact ⟨σ', H', J, k3 _ _ q⟩
    | cont => obtain ⟨σ', H', J, q⟩ := q; exact ⟨σ', H', J, k4 _ _ q⟩
    | ret u => obtain ⟨v, σ', H', J, r, q⟩ := q; exact ⟨v, σ', H', J, r, k2 _ _ q⟩⟩
theorem WE.lock {Q : VK} {d : Addr} {u : HO} (hd : H d = some u) (mu : Mut (some u)) (h : ∀ od, WE X e σ (upd H d (.frz od u)) Q) : WE X e σ H Q := ⟨fun pins s I => by
  obtain ⟨od, J⟩ := I.lock hd mu
  exact (h od).run pins s J⟩
theorem WE.lockAfter {Q : VK} (h : WE X e σ H fun v H' => ∃ d u, H' d = some u ∧ Mut (some u) ∧ ∀ od, Q v (upd H' d (.frz od u))) : WE X e σ H Q := ⟨fun pins s I =>
  thn (h.run pins s I) fun _ _ ⟨v, H', J, r, d, u, hd, mu, q⟩ => by
    obtain ⟨od, J'⟩ := J.lock hd mu
    exact ⟨v, _, J', r, q od⟩⟩
end
def Ext (F H : Hp) : Prop := ∀ a o, F a = some o → H a = some o
theorem Ext.refl (F : Hp) : Ext F F := fun _ _ h => h
theorem Ext.trans {F G H : Hp} (a : Ext F G) (b : Ext G H) : Ext F H := fun c o h => b c o (a c o h)
structure Pv where
  rep : PySem.W.Frag → Hp → V → Prop
  mono : ∀ {K : PySem.W.Frag} {F F' : Hp} {v : V}, rep K F v → Ext F F' → rep K F' v
structure Cell where
  rep : PySem.W.Frag → Hp → HO → Prop
  mono : ∀ {K : PySem.W.Frag} {F F' : Hp} {o : HO}, rep K F o → Ext F F' → rep K F' o
abbrev Rho := List (Option Pv)
abbrev Gs := List (Addr × Cell)
structure DSt where
  ρ : Rho
  gs : Gs
def isTbl : HO → Bool
  | .tbl _ => true
  | _ => false
def isTT : HO → Bool
  | .tbl _ => true
  | .tup _ => true
  | _ => false
theorem isTT_tbl {o : HO} (h : isTT o = false) : isTbl o = false := by
  cases o <;> first | rfl | cases h
inductive RepS (K : PySem.W.Frag) (F : Hp) : St → Rho → Prop
  | nil : RepS K F [] []
  | un {o : Option V} {σ : St} {ρ : Rho} : RepS K F σ ρ → RepS K F (o :: σ) (none :: ρ)
  | ha {v : V} {A : Pv} {σ : St} {ρ : Rho} : A.rep K F v → RepS K F σ ρ → RepS K F (some v :: σ) (some A :: ρ)
theorem RepS.mono {K : PySem.W.Frag} {F F' : Hp} {σ : St} {ρ : Rho} (h : RepS K F σ ρ) (e : Ext F F') : RepS K F' σ ρ := by
  induction h with
  | nil => exact .nil
  | un _ ih => exact .un ih
  | ha r _ ih => exact .ha (Pv.mono _ r e) ih
theorem RepS.length {K : PySem.W.Frag} {F : Hp} {σ : St} {ρ : Rho} (h : RepS K F σ ρ) : σ.length = ρ.length := by
  induction h with
  | nil => rfl
  | un _ ih => simp [ih]
  | ha _ _ ih => simp [ih]
theorem RepS.get {K : PySem.W.Frag} {F : Hp} {σ : St} {ρ : Rho} (h : RepS K F σ ρ) : ∀ {i : Nat} {A : Pv}, ρ[i]? = some (some A) → ∃ v, σ[i]? = some (some v) ∧ A.rep K F v := by
  induction h with
  | nil => intro i A e; simp at e
  | un _ ih =>
    intro i A e
    cases i with
    | zero => simp at e
    | succ i => obtain ⟨v, e1, r⟩ := ih (i := i) (by simpa using e); exact ⟨v, by simpa using e1, r⟩
  | ha r _ ih =>
    intro i A e
    cases i with
    | zero => simp at e; subst e; exact ⟨_, rfl, r⟩
    | succ i => obtain ⟨v, e1, r⟩ := ih (i := i) (by simpa using e); exact ⟨v, by simpa using e1, r⟩
theorem RepS.set {K : PySem.W.Frag} {F : Hp} {σ : St} {ρ : Rho} (h : RepS K F σ ρ) {v : V} {A : Pv} (r : A.rep K F v) : ∀ (i : Nat), RepS K F (σ.set i (some v)) (ρ.set i (some A)) := by
  induction h with
  | nil => intro i; exact .nil
  | un h ih =>
    intro i
    cases i with
    | zero => exact .ha r h
    | succ i => exact .un (ih i)
  | ha q h ih =>
    intro i
    cases i with
    | zero => exact .ha r h
    | succ i => exact .ha q (ih i)
theorem RepS.forget {K : PySem.W.Frag} {F : Hp} {σ : St} {ρ : Rho} (h : RepS K F σ ρ) {o : Option V} : ∀ (i : Nat), RepS K F (σ.set i o) (ρ.set i none) := by
  induction h with
  | nil => intro i; exact .nil
  | un h ih =>
    intro i
    cases i with
    | zero => exact .un h
    | succ i => exact .un (ih i)
  | ha q h ih =>
    intro i
    cases i with
    | zero => exact .un h
    | succ i => exact .ha q (ih i)
structure Exc where
  C : Addr
  row : Option (Str × Int)
def ExcRep (e : Exc) (cls : Value) (d : Option Addr) (H : Hp) : Prop :=
  cls = .ref e.C ∧ (match e.row with
    | none => d = none
    | some r => ∃ dx, d = some dx ∧ H dx = some (.xd [(r.1, .int r.2)]))
inductive Tk where
  | plain (q : Str)
  | nest (q : Option Str)
  | own
  /-- codes at lambdas' places bear a name, other codes any -/
  | mix (ls : List (Nat × Nat)) (q : Str)
def lamAt (ls : List (Nat × Nat)) (p : Pos) : Bool := decide ((p.line, p.col) ∈ ls)
abbrev Tb := List (Addr × Tk)
def plainT (T : Tb) : List (Addr × Str) := T.filterMap fun p => match p.2 with
  | .plain q => some (p.1, q)
  | _ => none
theorem plainT_mem {T : Tb} {a : Addr} {q : Str} : (a, q) ∈ plainT T ↔ (a, Tk.plain q) ∈ T := by
  unfold plainT
  rw [List.mem_filterMap]
  constructor
  · rintro ⟨p, hp, e⟩
    obtain ⟨x, k⟩ := p
    cases k with
    | plain z => simp at e; obtain ⟨e1, e2⟩ := e; subst e1 e2; exact hp
    | nest z => simp at e
    | own => simp at e
    | mix ls z => simp at e
  · intro h
    exact ⟨_, h, rfl⟩
def CodeT (c P : Addr) (q : Option Str) : HO := .ext fun h => (∀ z, q = some z → ∃ (oc : Obj) (us : Array Value) (t : Tok), h.get? c = some oc ∧ oc.data = .fields us ∧ us[1]? = some (.str z t)) ∧ ∃ (o : Obj) (vs : Array Value) (file : Str) (tf : Tok) (flags : Int) (tg : Tok) (inF : Bool) (text : Int) (tt : Tok), h.get? c = some o ∧ o.cls = .type "code" ∧ o.data = .fields vs ∧ vs[11]? = some (.ref P) ∧ vs.getD 11 .none = .ref P ∧ vs.getD 18 .none = .str file tf ∧
  vs.getD 7 .none = .int flags tg ∧ vs.getD 9 .none = .bool inF ∧ vs.getD 10 .none = .int text tt ∧ c ≠ P
def PTab (P : Addr) : HO := .ext fun h => ∃ ps : Array Value, h.get? P = some { cls := .none, data := .fields ps } ∧ TriplesOk ps.toList ∧ ∀ pos cv, codeAmong pos ps.toList = some cv → ∃ c, cv = .ref c
def TbE (H : Hp) (a : Addr) : Tk → Prop
  | .plain q => LamX.TabS H a q
  | .nest q => ∃ ps : Array Value, H a = some (.tbl ps) ∧ TriplesOk ps.toList ∧ ∀ pos cv, codeAmong pos ps.toList = some cv → ∃ c P, cv = .ref c ∧ H c = some (CodeT c P q) ∧ H P = some (PTab P)
  | .own => ∃ P q, H a = some (CodeT a P q) ∧ H P = some (PTab P)
  | .mix ls q => ∃ ps : Array Value, H a = some (.tbl ps) ∧ TriplesOk ps.toList ∧ ∀ pos cv, codeAmong pos ps.toList = some cv → ∃ c, cv = .ref c ∧ (lamAt ls pos = true → H c = some (LamX.CodeO c q))
def TbOk (T : Tb) (H : Hp) : Prop := ∀ p ∈ T, TbE H p.1 p.2
theorem TbE.ext {H H' : Hp} {a : Addr} {k : Tk} (h : TbE H a k) (e : ∀ b o, H b = some o → H' b = some o) : TbE H' a k := by
  cases k with
  | plain q => exact LamX.TabS.ext h e
  | nest z9 =>
    obtain ⟨ps, h1, h2, h3⟩ := h
    refine ⟨ps, e _ _ h1, h2, fun pos cv hc => ?_⟩
    obtain ⟨c, P, z1, z2, z3⟩ := h3 pos cv hc
    exact ⟨c, P, z1, e _ _ z2, e _ _ z3⟩
  | own =>
    obtain ⟨P, q, z2, z3⟩ := h
    exact ⟨P, q, e _ _ z2, e _ _ z3⟩
  | mix ls q =>
    obtain ⟨ps, h1, h2, h3⟩ := h
    refine ⟨ps, e _ _ h1, h2, fun pos cv hc => ?_⟩
    obtain ⟨c, z1, z2⟩ := h3 pos cv hc
    exact ⟨c, z1, fun l => e _ _ (z2 l)⟩
theorem TbOk.ext {T : Tb} {H H' : Hp} (h : TbOk T H) (e : ∀ b o, H b = some o → H' b = some o) : TbOk T H' := fun p hp => (h p hp).ext e
theorem TbOk.tabs {T : Tb} {H : Hp} (h : TbOk T H) : LamX.Tabs (plainT T) H := fun p hp => h (p.1, .plain p.2) (plainT_mem.mp hp)
def NestS (T : Tb) (H H' : Hp) : Prop := ∀ a ps, ((∃ q, (a, Tk.nest q) ∈ T) ∨ ∃ ls q, (a, Tk.mix ls q) ∈ T) → H a = some (.tbl ps) → H' a = some (.tbl ps)
theorem TbOk.extN {T : Tb} {H H' : Hp} (h : TbOk T H) (e : LamX.ExtN H H') (t : LamX.Tabs (plainT T) H') (tn : NestS T H H') : TbOk T H' := fun p hp => by
  obtain ⟨a, k⟩ := p
  have h0 := h _ hp
  cases k with
  | plain q => exact t (a, q) (plainT_mem.mpr hp)
  | nest z9 =>
    obtain ⟨ps, h1, h2, h3⟩ := h0
    refine ⟨ps, tn _ _ (.inl ⟨_, hp⟩) h1, h2, fun pos cv hc => ?_⟩
    obtain ⟨c, P, z1, z2, z3⟩ := h3 pos cv hc
    exact ⟨c, P, z1, e _ _ z2 (fun _ z => by unfold CodeT at z; cases z), e _ _ z3 (fun _ z => by unfold PTab at z; cases z)⟩
  | own =>
    obtain ⟨P, q, z2, z3⟩ := h0
    exact ⟨P, q, e _ _ z2 (fun _ z => by unfold CodeT at z; cases z), e _ _ z3 (fun _ z => by unfold PTab at z; cases z)⟩
  | mix ls q =>
    obtain ⟨ps, h1, h2, h3⟩ := h0
    refine ⟨ps, tn _ _ (.inr ⟨_, _, hp⟩) h1, h2, fun pos cv hc => ?_⟩
    obtain ⟨c, z1, z2⟩ := h3 pos cv hc
    exact ⟨c, z1, fun l => e _ _ (z2 l) LamX.codeO_ne⟩
structure DX where
  X : Cx
  T : Tb
  k : Nat
  H0 : Hp
  F0 : Hp
  S0 : List Addr
  ex : Exc → DSt → Prop
def Fre (H : Hp) (a : Addr) : Prop := ∀ o, H a = some o → isTT o = true
structure Step (H0 F0 : Hp) (S0 : List Addr) (H F : Hp) (S : List Addr) : Prop where
  ff : Ext F0 F
  fr : ∀ a o, H0 a = some o → isTbl o = false → a ∉ S0 → H a = some o
  nw : ∀ a, (F a ≠ none ∨ a ∈ S) → F0 a ≠ none ∨ a ∈ S0 ∨ Fre H0 a
theorem Step.refl {H F : Hp} {S : List Addr} : Step H F S H F S :=
  ⟨Ext.refl _, fun _ _ h _ _ => h, fun _ h => h.elim .inl fun h => .inr (.inl h)⟩
theorem Step.was {H0 F0 H F : Hp} {S0 S : List Addr} (t : Step H0 F0 S0 H F S) {p : Addr} (hp : Fre H p) : p ∈ S0 ∨ Fre H0 p := by
  by_cases z2 : p ∈ S0
  · exact .inl z2
  · refine .inr fun o e => ?_
    cases z3 : isTT o with
    | true => rfl
    | false =>
      have := hp o (t.fr p o e (isTT_tbl z3) z2)
      rw [z3] at this
      exact this
theorem Fre.of {H : Hp} {p : Addr} (h : H p = none) : Fre H p := fun o e => by rw [h] at e; cases e
structure Sta (Y : DX) (s : DSt) (σ : St) (H F : Hp) : Prop where
  ext : Ext F H
  ntb : ∀ a o, F a = some o → isTbl o = false
  rep : RepS Y.X.K F σ s.ρ
  own : ∀ p ∈ s.gs, F p.1 = none ∧ ∃ o, H p.1 = some o ∧ isTT o = false ∧ p.2.rep Y.X.K F o
  nd : (s.gs.map (·.1)).Nodup
  tb : TbOk Y.T H
  st : Step Y.H0 Y.F0 Y.S0 H F (s.gs.map (·.1))
section
variable {Y : DX} {s : DSt} {σ : St} {H F : Hp}
theorem TbOk.new {T : Tb} {H : Hp} {p : Addr} {o : HO} (h : TbOk T H) (hp : H p = none) : TbOk T (upd H p o) := h.ext fun b u e => by rw [upd_ne (ne_of_none e hp)]; exact e
theorem TbOk.write {T : Tb} {H : Hp} {p : Addr} {o u : HO} (h : TbOk T H) (hp : H p = some o) (ho : isTbl o = false) (hc : ∀ φ, o ≠ .ext φ) : TbOk T (upd H p u) := fun q hq => by
  have kc : ∀ {b φ}, H b = some (.ext φ) → upd H p u b = some (.ext φ) := fun {b φ} e => by
    rw [upd_ne]
    · exact e
    · intro z
      rw [z, hp] at e
      exact hc _ (Option.some.inj e)
  obtain ⟨a, k⟩ := q
  have h0 := h _ hq
  cases k with
  | plain s =>
    obtain ⟨ps, h1, h2, h3⟩ := h0
    refine ⟨ps, ?_, h2, fun pos cv hcv => ?_⟩
    · rw [upd_ne]
      · exact h1
      · intro e
        rw [e, hp] at h1
        cases h1
        cases ho
    · obtain ⟨c, e1, e2⟩ := h3 pos cv hcv
      exact ⟨c, e1, kc e2⟩
  | nest z9 =>
    obtain ⟨ps, h1, h2, h3⟩ := h0
    refine ⟨ps, ?_, h2, fun pos cv hcv => ?_⟩
    · rw [upd_ne]
      · exact h1
      · intro e
        rw [e, hp] at h1
        cases h1
        cases ho
    · obtain ⟨c, P, e1, e2, e3⟩ := h3 pos cv hcv
      exact ⟨c, P, e1, kc e2, kc e3⟩
  | own =>
    obtain ⟨P, q, e2, e3⟩ := h0
    exact ⟨P, q, kc e2, kc e3⟩
  | mix ls q =>
    obtain ⟨ps, h1, h2, h3⟩ := h0
    refine ⟨ps, ?_, h2, fun pos cv hcv => ?_⟩
    · rw [upd_ne]
      · exact h1
      · intro e
        rw [e, hp] at h1
        cases h1
        cases ho
    · obtain ⟨c, e1, e2⟩ := h3 pos cv hcv
      exact ⟨c, e1, fun l => kc (e2 l)⟩
theorem Ext.new {F H : Hp} {p : Addr} {o : HO} (e : Ext F H) (hp : H p = none) : Ext F (upd H p o) := fun a u h => by
  rw [upd_ne (ne_of_none (e a u h) hp)]
  exact e a u h
theorem Ext.both {F H : Hp} {p : Addr} {o : HO} (e : Ext F H) : Ext (upd F p o) (upd H p o) := fun a u h => by
  by_cases q : a = p
  · rw [q, upd_same] at h ⊢
    exact h
  · rw [upd_ne q] at h ⊢
    exact e a u h
theorem Ext.free {F H : Hp} {p : Addr} (e : Ext F H) (hp : H p = none) : F p = none := by
  cases q : F p with
  | none => rfl
  | some o => rw [e _ _ q] at hp; cases hp
theorem Ext.grow {F : Hp} {p : Addr} {o : HO} (hp : F p = none) : Ext F (upd F p o) := fun a u h => by
  rw [upd_ne (ne_of_none h hp)]
  exact h
theorem Sta.free (S : Sta Y s σ H F) {p : Addr} (hp : H p = none) : F p = none := S.ext.free hp
theorem Sta.newF (S : Sta Y s σ H F) {p : Addr} {o : HO} (hp : H p = none) (ho : isTbl o = false) : Sta Y s σ (upd H p o) (upd F p o) := by
  have hF := S.ext.free hp
  refine ⟨S.ext.both, fun a u h => ?_, S.rep.mono (Ext.grow hF), fun q hq => ?_, S.nd, S.tb.new hp, ⟨S.st.ff.trans (Ext.grow hF), fun a u h1 h2 h3 => ?_, fun a h => ?_⟩⟩
  · by_cases q : a = p
    · rw [q, upd_same] at h; cases h; exact ho
    · rw [upd_ne q] at h; exact S.ntb a u h
  · obtain ⟨h1, u, h2, h3, h4⟩ := S.own q hq
    have ne : q.1 ≠ p := ne_of_none h2 hp
    exact ⟨by rw [upd_ne ne]; exact h1, u, by rw [upd_ne ne]; exact h2, h3, q.2.mono h4 (Ext.grow hF)⟩
  · have h := S.st.fr a u h1 h2 h3
    rw [upd_ne (ne_of_none h hp)]
    exact h
  · by_cases q : a = p
    · rw [q]; exact .inr (S.st.was (.of hp))
    · refine S.st.nw a (h.elim (fun h => .inl ?_) .inr)
      rw [upd_ne q] at h
      exact h
theorem Sta.newO (S : Sta Y s σ H F) {p : Addr} {o : HO} {c : Cell} (hp : H p = none) (ho : isTT o = false) (r : c.rep Y.X.K F o) : Sta Y ⟨s.ρ, (p, c) :: s.gs⟩ σ (upd H p o) F := by
  have hF := S.ext.free hp
  have nin : p ∉ s.gs.map (·.1) := fun hm => by
    obtain ⟨q, hq, e⟩ := List.mem_map.mp hm
    obtain ⟨_, u, h2, _⟩ := S.own q hq
    rw [e, hp] at h2; cases h2
  refine ⟨S.ext.new hp, S.ntb, S.rep, fun q hq => ?_, List.nodup_cons.mpr ⟨nin, S.nd⟩, S.tb.new hp, ⟨S.st.ff, fun a u h1 h2 h3 => ?_, fun a h => ?_⟩⟩
  · rcases List.mem_cons.mp hq with e | hq
    · subst e
      exact ⟨hF, o, upd_same, ho, r⟩
    · obtain ⟨h1, u, h2, h3, h4⟩ := S.own q hq
      exact ⟨h1, u, by rw [upd_ne (ne_of_none h2 hp)]; exact h2, h3, h4⟩
  · have h := S.st.fr a u h1 h2 h3
    rw [upd_ne (ne_of_none h hp)]
    exact h
  · rcases h with h | h
    · exact S.st.nw a (.inl h)
    · rcases List.mem_cons.mp h with h | h
      · rw [h]; exact .inr (S.st.was (.of hp))
      · exact S.st.nw a (.inr h)
theorem Sta.cell (S : Sta Y s σ H F) {i : Nat} {p : Addr} {c : Cell} (h : s.gs[i]? = some (p, c)) : F p = none ∧ ∃ o, H p = some o ∧ isTT o = false ∧ c.rep Y.X.K F o :=
  S.own (p, c) (List.mem_of_getElem? h)
theorem fst_set (gs : Gs) {i : Nat} {p : Addr} {c c' : Cell} (h : gs[i]? = some (p, c)) : (gs.set i (p, c')).map (·.1) = gs.map (·.1) := by
  rw [List.map_set]
  apply List.ext_getElem?
  intro j
  by_cases e : i = j
  · subst e
    obtain ⟨hl, e⟩ := List.getElem?_eq_some_iff.mp h
    rw [List.getElem?_set_self (by simpa using hl), List.getElem?_map, h]
    rfl
  · rw [List.getElem?_set_ne e]
theorem Sta.write (S : Sta Y s σ H F) {i : Nat} {p : Addr} {c c' : Cell} {o o' : HO} (h : s.gs[i]? = some (p, c)) (hp : H p = some o) (hc : ∀ φ, o ≠ .ext φ) (ho : isTT o' = false) (r : c'.rep Y.X.K F o') :
    Sta Y ⟨s.ρ, s.gs.set i (p, c')⟩ σ (upd H p o') F := by
  obtain ⟨hF, u, hu, hut, _⟩ := S.cell h
  rw [hp] at hu
  cases hu
  obtain ⟨hil, hie⟩ := List.getElem?_eq_some_iff.mp h
  have fs := fst_set s.gs (c' := c') h
  have hne : ∀ j q, j ≠ i → s.gs[j]? = some q → q.1 ≠ p := fun j q hj hq e => by
    obtain ⟨hjl, hje⟩ := List.getElem?_eq_some_iff.mp hq
    refine hj ((List.getElem_inj (h₀ := by simpa using hjl) (h₁ := by simpa using hil) S.nd).mp ?_)
    simp [hje, hie, e]
  refine ⟨fun a w ha => ?_, S.ntb, S.rep, fun q hq => ?_, by rw [fs]; exact S.nd, S.tb.write hp (isTT_tbl hut) hc, ?_⟩
  · have n : a ≠ p := fun e => by rw [e, hF] at ha; cases ha
    rw [upd_ne n]
    exact S.ext a w ha
  · obtain ⟨j, hj, e⟩ := List.getElem_of_mem hq
    have hjl : j < s.gs.length := by simpa using hj
    by_cases hji : j = i
    · subst hji
      rw [List.getElem_set_self] at e
      subst e
      exact ⟨hF, o', upd_same, ho, r⟩
    · rw [List.getElem_set_ne (Ne.symm hji)] at e
      have e2 : s.gs[j]? = some q := by rw [List.getElem?_eq_getElem hjl, e]
      obtain ⟨h1, w, h2, h3, h4⟩ := S.own q (List.mem_of_getElem? e2)
      exact ⟨h1, w, by rw [upd_ne (hne j q hji e2)]; exact h2, h3, h4⟩
  · show Step Y.H0 Y.F0 Y.S0 (upd H p o') F ((s.gs.set i (p, c')).map (·.1))
    rw [fs]
    have pin : p ∈ s.gs.map (·.1) := List.mem_map.mpr ⟨(p, c), List.mem_of_getElem? h, rfl⟩
    refine ⟨S.st.ff, fun a w h1 h2 h3 => ?_, S.st.nw⟩
    · have n : a ≠ p := fun e => by
        rcases S.st.nw p (.inr pin) with z | z | z
        · obtain ⟨w2, z⟩ := Option.ne_none_iff_exists'.mp z
          have := S.st.ff p w2 z
          rw [hF] at this; cases this
        · exact h3 (e ▸ z)
        · have := z w (e ▸ h1)
          have q9 := S.st.fr a w h1 h2 h3
          rw [e, hp] at q9
          cases q9
          rw [hut] at this; cases this
      rw [upd_ne n]
      exact S.st.fr a w h1 h2 h3
theorem Sta.freeze (S : Sta Y s σ H F) {i : Nat} {p : Addr} {c : Cell} {o : HO} (h : s.gs[i]? = some (p, c)) (hp : H p = some o) : Sta Y ⟨s.ρ, s.gs.eraseIdx i⟩ σ H (upd F p o) := by
  obtain ⟨hF, u, hu, hut, _⟩ := S.cell h
  rw [hp] at hu
  cases hu
  obtain ⟨hil, hie⟩ := List.getElem?_eq_some_iff.mp h
  have hgi := h
  have sub : ∀ q, q ∈ s.gs.eraseIdx i → q ∈ s.gs := fun q hq => List.mem_of_mem_eraseIdx hq
  have hne : ∀ q, q ∈ s.gs.eraseIdx i → q.1 ≠ p := fun q hq e => by
    obtain ⟨j, hj, he⟩ := List.mem_eraseIdx_iff_getElem?.mp hq
    obtain ⟨hjl, hje⟩ := List.getElem?_eq_some_iff.mp he
    refine hj ((List.getElem_inj (h₀ := by simpa using hjl) (h₁ := by simpa using hil) S.nd).mp ?_)
    simp [hje, hie, e]
  have hsl : ((s.gs.eraseIdx i).map (·.1)).Sublist (s.gs.map (·.1)) := (List.eraseIdx_sublist _ _).map _
  refine ⟨fun a w ha => ?_, fun a w ha => ?_, S.rep.mono (Ext.grow hF), fun q hq => ?_, S.nd.sublist hsl, S.tb, ⟨S.st.ff.trans (Ext.grow hF), S.st.fr, fun a h => ?_⟩⟩
  · by_cases n : a = p
    · rw [n, upd_same] at ha; cases ha; rw [n]; exact hp
    · rw [upd_ne n] at ha; exact S.ext a w ha
  · by_cases n : a = p
    · rw [n, upd_same] at ha; cases ha; exact isTT_tbl hut
    · rw [upd_ne n] at ha; exact S.ntb a w ha
  · obtain ⟨h1, w, h2, h3, h4⟩ := S.own q (sub q hq)
    exact ⟨by rw [upd_ne (hne q hq)]; exact h1, w, h2, h3, q.2.mono h4 (Ext.grow hF)⟩
  · rcases h with h | h
    · by_cases n : a = p
      · rw [n]
        exact S.st.nw p (.inr (List.mem_map.mpr ⟨(p, c), List.mem_of_getElem? hgi, rfl⟩))
      · rw [upd_ne n] at h
        exact S.st.nw a (.inl h)
    · exact S.st.nw a (.inr (hsl.subset h))
theorem Sta.drop (S : Sta Y s σ H F) (i : Nat) : Sta Y ⟨s.ρ, s.gs.eraseIdx i⟩ σ H F := by
  have hsl : ((s.gs.eraseIdx i).map (·.1)).Sublist (s.gs.map (·.1)) := (List.eraseIdx_sublist _ _).map _
  exact ⟨S.ext, S.ntb, S.rep, fun q hq => S.own q (List.mem_of_mem_eraseIdx hq), S.nd.sublist hsl, S.tb, ⟨S.st.ff, S.st.fr, fun a h => S.st.nw a (h.imp id fun h => hsl.subset h)⟩⟩
theorem Sta.perm (S : Sta Y s σ H F) {gs : Gs} (h : s.gs.Perm gs) : Sta Y ⟨s.ρ, gs⟩ σ H F :=
  ⟨S.ext, S.ntb, S.rep, fun q hq => S.own q (h.mem_iff.mpr hq), (h.map _).nodup_iff.mp S.nd, S.tb, ⟨S.st.ff, S.st.fr, fun a q => S.st.nw a (q.imp id fun q => (h.map _).mem_iff.mpr q)⟩⟩
theorem Sta.set (S : Sta Y s σ H F) {v : V} {A : Pv} (r : A.rep Y.X.K F v) (i : Nat) : Sta Y ⟨s.ρ.set i (some A), s.gs⟩ (σ.set i (some v)) H F := ⟨S.ext, S.ntb, S.rep.set r i, S.own, S.nd, S.tb, S.st⟩
theorem Sta.extT {H' : Hp} (S : Sta Y s σ H F) (e : LamX.ExtN H H') (t : TbOk Y.T H') : Sta Y s σ H' F := by
  have k : ∀ a o, H a = some o → isTbl o = false → H' a = some o := fun a o h1 h2 => e a o h1 fun ps z => by rw [z] at h2; cases h2
  exact ⟨fun a o h => k a o (S.ext a o h) (S.ntb a o h), S.ntb, S.rep, fun p hp => by
    obtain ⟨h1, o, h2, h3, h4⟩ := S.own p hp
    exact ⟨h1, o, k _ o h2 (isTT_tbl h3), h3, h4⟩, S.nd, t, ⟨S.st.ff, fun a o h1 h2 h3 => k a o (S.st.fr a o h1 h2 h3) h2, S.st.nw⟩⟩
theorem Sta.extN {H' : Hp} (S : Sta Y s σ H F) (e : LamX.ExtN H H') (t0 : LamX.Tabs (plainT Y.T) H') (tn : NestS Y.T H H') : Sta Y s σ H' F := S.extT e (S.tb.extN e t0 tn)
theorem Sta.length (S : Sta Y s σ H F) : σ.length = s.ρ.length := S.rep.length
end
end Sp
set_option maxHeartbeats 4000000
namespace Sp
open PySem L2
abbrev Frag := PySem.W.Frag
section
variable {δ ε : Type} {R : δ → ε → Prop}
theorem prd_get : ∀ {l : List δ} {m : List ε}, Paired R l m → ∀ {i : Nat} {y : ε}, m[i]? = some y → ∃ x, l[i]? = some x ∧ R x y
  | _, _, .nil, i, y, h => by simp at h
  | _, _, .cons r t, 0, y, h => by simp at h; subst h; exact ⟨_, rfl, r⟩
  | _, _, .cons r t, i + 1, y, h => by
    obtain ⟨x, h1, h2⟩ := prd_get t (i := i) (y := y) (by simpa using h)
    exact ⟨x, by simpa using h1, h2⟩
theorem prd_app {l l' : List δ} {m m' : List ε} (h : Paired R l m) (k : Paired R l' m') : Paired R (l ++ l') (m ++ m') := by
  induction h with
  | nil => exact k
  | cons r _ ih => exact .cons r ih
theorem prd_take {l : List δ} {m : List ε} (h : Paired R l m) : ∀ i : Nat, Paired R (l.take i) (m.take i) := by
  induction h with
  | nil => intro i; simp; exact .nil
  | cons r t ih =>
    intro i
    cases i with
    | zero => exact .nil
    | succ i => exact .cons r (ih i)
theorem prd_drop {l : List δ} {m : List ε} (h : Paired R l m) : ∀ i : Nat, Paired R (l.drop i) (m.drop i) := by
  induction h with
  | nil => intro i; simp; exact .nil
  | cons r t ih =>
    intro i
    cases i with
    | zero => exact .cons r t
    | succ i => exact ih i
theorem prd_set {l : List δ} {m : List ε} {x : δ} {y : ε} (h : Paired R l m) (k : R x y) : ∀ i : Nat, Paired R (l.set i x) (m.set i y) := by
  induction h with
  | nil => intro i; exact .nil
  | cons r t ih =>
    intro i
    cases i with
    | zero => exact .cons k t
    | succ i => exact .cons r (ih i)
theorem prd_map {l : List δ} {m : List ε} {ι κ : Type} {S : ι → κ → Prop} {f : δ → ι} {g : ε → κ} (h : Paired R l m) (k : ∀ a b, R a b → S (f a) (g b)) : Paired S (l.map f) (m.map g) := by
  induction h with
  | nil => exact .nil
  | cons r _ ih => exact .cons (k _ _ r) ih
end
class Enc (α : Type) where
  rep : Frag → Hp → V → α → Prop
  mono : ∀ {K : Frag} {F F' : Hp} {v : V} {a : α}, rep K F v a → Ext F F' → rep K F' v a
def pu {α : Type} [Enc α] (a : α) : Pv := ⟨fun K F v => Enc.rep K F v a, Enc.mono⟩
def raw (v : V) : Pv := ⟨fun _ _ u => u = v, fun h _ => h⟩
abbrev Txt := List Nat
def toStr (x : Txt) : Str := ⟨x.toArray⟩
theorem toStr_inj {x y : Txt} (h : toStr x = toStr y) : x = y := by
  have h2 : (⟨x.toArray⟩ : Str).cps = (⟨y.toArray⟩ : Str).cps := congrArg Str.cps h
  simpa using h2
theorem toStr_cps (x : Txt) : (toStr x).cps.toList = x := by simp [toStr]
theorem toStr_of (x : Str) : toStr x.cps.toList = x := by cases x; simp [toStr]
instance : Enc Int := ⟨fun _ _ v i => v = .int i, fun h _ => h⟩
instance : Enc Bool := ⟨fun _ _ v b => v = .bl b, fun h _ => h⟩
instance : Enc Unit := ⟨fun _ _ v _ => v = .non, fun h _ => h⟩
theorem toStr_app (x y : Txt) : toStr x ++ toStr y = toStr (x ++ y) := by
  show Str.append (toStr x) (toStr y) = _
  simp [Str.append, toStr]
theorem toStr_len (x : Txt) : (toStr x).length = x.length := by simp [toStr, Str.length]
instance encTxt : Enc (List Nat) := ⟨fun _ _ v x => v = .str (toStr x), fun h _ => h⟩
instance {α : Type} [Enc α] : Enc (Option α) := ⟨fun K F v o => match o with
  | none => v = .non
  | some a => Enc.rep K F v a, fun {K F F' v a} h e => by
    cases a with
    | none => exact h
    | some a => exact Enc.mono (α := α) h e⟩
instance {α β : Type} [Enc α] [Enc β] : Enc (Sum α β) := ⟨fun K F v o => match o with
  | .inl a => Enc.rep K F v a
  | .inr b => Enc.rep K F v b, fun {K F F' v a} h e => by
    cases a with
    | inl a => exact Enc.mono (α := α) h e
    | inr a => exact Enc.mono (α := β) h e⟩
abbrev Vs {α : Type} [Enc α] (K : Frag) (F : Hp) : List V → List α → Prop := Paired fun v a => Enc.rep K F v a
theorem Vs.mono {α : Type} [Enc α] {K : Frag} {F F' : Hp} {vs : List V} {xs : List α} (h : Vs K F vs xs) (e : Ext F F') : Vs K F' vs xs := Paired.mapP h fun _ _ r => Enc.mono r e
theorem rd_ext {F F' : Hp} {a : Addr} {u : HO} (h : Rd F a u) (e : Ext F F') : Rd F' a u := h.imp (e _ _) fun ⟨o, h⟩ => ⟨o, e _ _ h⟩
theorem sqL_ext {K : Frag} {F F' : Hp} {a : Addr} {xs : List V} (h : SqL K F a xs) (e : Ext F F') : SqL K F' a xs := h.imp (rd_ext · e) id
theorem sqT_ex2 {K : Frag} {F F' : Hp} {a : Addr} {xs : List V} (h : SqT K F a xs) (e : Ext F F') : SqT K F' a xs := h.imp (rd_ext · e) id
theorem sqT_ext {K : Frag} {F F' : Hp} {a : Addr} {xs : List V} (h : F a = some (.tup xs)) (e : Ext F F') : SqT K F' a xs := .inl (.inl (e _ _ h))
instance encList {α : Type} [Enc α] : Enc (List α) := ⟨fun K F v xs => ∃ p vs, v = .ref p ∧ SqL K F p vs ∧ Vs K F vs xs,
  fun ⟨p, vs, h1, h2, h3⟩ e => ⟨p, vs, h1, sqL_ext h2 e, h3.mono e⟩⟩
abbrev Tup := PySem.W.Tup
abbrev T3 := PySem.W.T3
abbrev T4 := PySem.W.T4
instance {α : Type} [Enc α] : Enc (Tup α) := ⟨fun K F v xs => ∃ p vs, v = .ref p ∧ SqT K F p vs ∧ Vs K F vs xs.items,
  fun ⟨p, vs, h1, h2, h3⟩ e => ⟨p, vs, h1, sqT_ex2 h2 e, h3.mono e⟩⟩
instance {α β : Type} [Enc α] [Enc β] : Enc (α × β) := ⟨fun K F v x => ∃ p a b, v = .ref p ∧ F p = some (.tup [a, b]) ∧ Enc.rep K F a x.1 ∧ Enc.rep K F b x.2,
  fun ⟨p, a, b, h1, h2, h3, h4⟩ e => ⟨p, a, b, h1, e _ _ h2, Enc.mono h3 e, Enc.mono h4 e⟩⟩
instance {α β γ : Type} [Enc α] [Enc β] [Enc γ] : Enc (T3 α β γ) := ⟨fun K F v x => ∃ p a b c, v = .ref p ∧ F p = some (.tup [a, b, c]) ∧ Enc.rep K F a x.a ∧ Enc.rep K F b x.b ∧ Enc.rep K F c x.c,
  fun ⟨p, a, b, c, h1, h2, h3, h4, h5⟩ e => ⟨p, a, b, c, h1, e _ _ h2, Enc.mono h3 e, Enc.mono h4 e, Enc.mono h5 e⟩⟩
instance {α β γ δ : Type} [Enc α] [Enc β] [Enc γ] [Enc δ] : Enc (T4 α β γ δ) := ⟨fun K F v x => ∃ p a b c d, v = .ref p ∧ F p = some (.tup [a, b, c, d]) ∧ Enc.rep K F a x.a ∧ Enc.rep K F b x.b ∧ Enc.rep K F c x.c ∧ Enc.rep K F d x.d,
  fun ⟨p, a, b, c, d, h1, h2, h3, h4, h5, h6⟩ e => ⟨p, a, b, c, d, h1, e _ _ h2, Enc.mono h3 e, Enc.mono h4 e, Enc.mono h5 e, Enc.mono h6 e⟩⟩
class Kk (κ : Type) where
  key : κ → Key
  inj : ∀ {a b : κ}, key a = key b → a = b
instance : Kk Int := ⟨Sum.inl, fun h => Sum.inl.inj h⟩
instance : Kk (List Nat) := ⟨fun x => Sum.inr (toStr x), fun h => toStr_inj (Sum.inr.inj h)⟩
structure Dct (κ ν : Type) where
  kvs : List (κ × ν)
abbrev KVs {κ ν : Type} [Kk κ] [Enc ν] (K : Frag) (F : Hp) : List (Key × V) → List (κ × ν) → Prop := Paired fun p q => p.1 = Kk.key q.1 ∧ Enc.rep K F p.2 q.2
theorem KVs.mono {κ ν : Type} [Kk κ] [Enc ν] {K : Frag} {F F' : Hp} {vs : List (Key × V)} {xs : List (κ × ν)} (h : KVs K F vs xs) (e : Ext F F') : KVs K F' vs xs := Paired.mapP h fun _ _ r => ⟨r.1, Enc.mono r.2 e⟩
instance encDct {κ ν : Type} [Kk κ] [Enc ν] : Enc (Dct κ ν) := ⟨fun K F v d => ∃ p od kvs, v = .ref p ∧ F p = some (.frz od (.dK kvs)) ∧ KVs K F kvs d.kvs,
  fun ⟨p, od, kvs, h1, h2, h3⟩ e => ⟨p, od, kvs, h1, e _ _ h2, h3.mono e⟩⟩
def lstc {α : Type} [Enc α] (xs : List α) : Cell := ⟨fun K F o => ∃ vs, o = .lst vs ∧ Vs K F vs xs, fun ⟨vs, h1, h2⟩ e => ⟨vs, h1, h2.mono e⟩⟩
def dctc {κ ν : Type} [Kk κ] [Enc ν] (d : List (κ × ν)) : Cell := ⟨fun K F o => ∃ kvs, o = .dK kvs ∧ KVs K F kvs d, fun ⟨vs, h1, h2⟩ e => ⟨vs, h1, h2.mono e⟩⟩
def dicec : Cell := ⟨fun _ _ o => ∃ i j k : Int, o = .lst [.int i, .int j, .int k], fun h _ => h⟩
def Po (Y : DX) (σ : St) (F0 : Hp) (Q : Pv → DSt → Prop) : VK := fun v H' => ∃ A s' F', Ext F0 F' ∧ A.rep Y.X.K F' v ∧ Sta Y s' σ H' F' ∧ Q A s'
def Pp (Y : DX) (s : DSt) (σ : St) (F0 : Hp) (A : Pv) : VK := fun v H' => ∃ F', Ext F0 F' ∧ A.rep Y.X.K F' v ∧ Sta Y s σ H' F'
def Pt (Y : DX) (σ : St) (F0 : Hp) (Q : Bool → DSt → Prop) : Bool → Hp → Prop := fun b H' => ∃ s' F', Ext F0 F' ∧ Sta Y s' σ H' F' ∧ Q b s'
def Ev (Y : DX) (s : DSt) (e : Expr) (Q : Pv → DSt → Prop) : Prop :=
  ∀ F0 σ H F, Ext F0 F → Sta Y s σ H F → WE Y.X e σ H (Po Y σ F0 Q)
def EvP (Y : DX) (s : DSt) (e : Expr) (A : Pv) : Prop :=
  ∀ F0 σ H F, Ext F0 F → Sta Y s σ H F → WE Y.X e σ H (Pp Y s σ F0 A)
def Et (Y : DX) (s : DSt) (e : Expr) (Q : Bool → DSt → Prop) : Prop :=
  ∀ F0 σ H F, Ext F0 F → Sta Y s σ H F → WT Y.X e σ H (Pt Y σ F0 Q)
def EtP (Y : DX) (s : DSt) (e : Expr) (b : Bool) : Prop :=
  ∀ F0 σ H F, Ext F0 F → Sta Y s σ H F → WT Y.X e σ H fun b' H' => b' = b ∧ ∃ F', Ext F0 F' ∧ Sta Y s σ H' F'
section
variable {Y : DX} {s : DSt} {e a b c : Expr} {pos : Pos}
theorem Ev.of {A : Pv} {Q : Pv → DSt → Prop} (h : EvP Y s e A) (q : Q A s) : Ev Y s e Q := fun F0 σ H F e0 S => (h F0 σ H F e0 S).mono fun v H' ⟨F', e1, r, S'⟩ => ⟨A, s, F', e1, r, S', q⟩
theorem Ev.mono {Q Q' : Pv → DSt → Prop} (h : Ev Y s e Q) (k : ∀ A s', Q A s' → Q' A s') : Ev Y s e Q' := fun F0 σ H F e0 S => (h F0 σ H F e0 S).mono fun v H' ⟨A, s', F', e1, r, S', q⟩ => ⟨A, s', F', e1, r, S', k _ _ q⟩
theorem EvP.of {A : Pv} (h : Ev Y s e fun B s' => B = A ∧ s' = s) : EvP Y s e A := fun F0 σ H F e0 S => (h F0 σ H F e0 S).mono fun v H' ⟨B, s', F', e1, r, S', q1, q2⟩ => by subst q1 q2; exact ⟨F', e1, r, S'⟩
theorem Et.of {x : Bool} {Q : Bool → DSt → Prop} (h : EtP Y s e x) (q : Q x s) : Et Y s e Q := fun F0 σ H F e0 S => (h F0 σ H F e0 S).mono fun v H' ⟨e2, F', e1, S'⟩ => by subst e2; exact ⟨s, F', e1, S', q⟩
theorem Et.mono {Q Q' : Bool → DSt → Prop} (h : Et Y s e Q) (k : ∀ A s', Q A s' → Q' A s') : Et Y s e Q' := fun F0 σ H F e0 S => (h F0 σ H F e0 S).mono fun v H' ⟨s', F', e1, S', q⟩ => ⟨s', F', e1, S', k _ _ q⟩
theorem EtP.of {x : Bool} (h : Et Y s e fun y s' => y = x ∧ s' = s) : EtP Y s e x := fun F0 σ H F e0 S => (h F0 σ H F e0 S).mono fun v H' ⟨s', F', e1, S', q1, q2⟩ => by subst q1 q2; exact ⟨rfl, F', e1, S'⟩
theorem EvP.to {A B : Pv} (h : EvP Y s e A) (eq : A = B) : EvP Y s e B := eq ▸ h
theorem EtP.to {x y : Bool} (h : EtP Y s e x) (eq : x = y) : EtP Y s e y := eq ▸ h
theorem ev2 {Q : Pv → DSt → Prop} {r : R2} (P : PE Y.X e (tOp r (WE Y.X a) (WE Y.X b)))
    (h : Ev Y s a fun A s1 => Ev Y s1 b fun B s2 => ∀ F0 σ H F v u, Ext F0 F → Sta Y s2 σ H F → A.rep Y.X.K F v → B.rep Y.X.K F u → r v u H (Po Y σ F0 Q)) : Ev Y s e Q := fun F0 σ H F e0 S => by
  refine .of P ?_
  refine (h F σ H F (.refl _) S).mono fun v H1 ⟨A, s1, F1, e1, r1, S1, q1⟩ => ?_
  refine (q1 F1 σ H1 F1 (.refl _) S1).mono fun u H2 ⟨B, s2, F2, e2, r2, S2, q2⟩ => ?_
  exact q2 F0 σ H2 F2 v u ((e0.trans e1).trans e2) S2 (A.mono r1 e2) r2
theorem evp2 {A B C : Pv} {r : R2} (P : PE Y.X e (tOp r (WE Y.X a) (WE Y.X b))) (ha : EvP Y s a A) (hb : EvP Y s b B)
    (h : ∀ F0 σ H F v u, Ext F0 F → Sta Y s σ H F → A.rep Y.X.K F v → B.rep Y.X.K F u → r v u H (Pp Y s σ F0 C)) : EvP Y s e C := fun F0 σ H F e0 S => by
  refine .of P ?_
  refine (ha F σ H F (.refl _) S).mono fun v H1 ⟨F1, e1, r1, S1⟩ => ?_
  refine (hb F1 σ H1 F1 (.refl _) S1).mono fun u H2 ⟨F2, e2, r2, S2⟩ => ?_
  exact h F0 σ H2 F2 v u ((e0.trans e1).trans e2) S2 (A.mono r1 e2) r2
theorem et_val {Q : Bool → DSt → Prop} (he : ∀ whole, isTrue e Y.X.env whole = (do let v ← whole; standAt e.pos; holding [v] (truthy v))) (h : Ev Y s e fun A s' => ∃ x : Bool, A = pu x ∧ Q x s') : Et Y s e Q := fun F0 σ H F e0 S => by
  refine .of (pt_val pe_we he) ?_
  refine (h F0 σ H F e0 S).mono fun v H' ⟨A, s', F', e1, r, S', x, ea, q⟩ => ?_
  subst ea
  exact ⟨x, r, s', F', e1, S', q⟩
theorem evp_var {A : Pv} {x : Str} (i : Nat) (hN : Y.X.N[i]? = some x) (hv : Vis Y.X.env.scope x) (hA : s.ρ[i]? = some (some A)) (hd : (x == ("__debug__" : Str)) = false := by decide) (hcd : (x == ("__classdict__" : Str)) = false := by decide) :
    EvP Y s (.Name x pos) A := fun F0 σ H F e0 S => by
  obtain ⟨v, e1, r⟩ := S.rep.get hA
  exact .of (pe_var hN hv hd hcd) ⟨v, e1, F, e0, r, S⟩
theorem evp_int {i : Int} {j : Nat} : EvP Y s (.Constant (.int i) j pos) (pu i) := fun F0 σ H F e0 S => .of pe_int ⟨F, e0, rfl, S⟩
theorem evp_bl {x : Bool} {j : Nat} : EvP Y s (.Constant (.bool x) j pos) (pu x) := fun F0 σ H F e0 S => .of pe_bl ⟨F, e0, rfl, S⟩
theorem evp_non {j : Nat} : EvP Y s (.Constant .none j pos) (pu ()) := fun F0 σ H F e0 S => .of pe_non ⟨F, e0, rfl, S⟩
theorem evp_str {x : Str} (y : Txt) {j : Nat} (hy : toStr y = x) : EvP Y s (.Constant (.str x) j pos) (pu y) := fun F0 σ H F e0 S => .of pe_str ⟨F, e0, by show V.str x = V.str (toStr y); rw [hy], S⟩
theorem evp_glob {x : Str} {v : V} {u : Value} {A : Pv} (hg : Gl Y.X x) (hm : Y.X.mg x = some u) (r : RelV v u) (hA : ∀ F, A.rep Y.X.K F v) (hd : (x == ("__debug__" : Str)) = false := by decide) : EvP Y s (.Name x pos) A :=
  fun F0 σ H F e0 S => .of (pe_glob hg hm r hd) ⟨F, e0, hA F, S⟩
theorem ev_ints {Q : Pv → DSt → Prop} {α : Type} [Enc α] {C : Int → Int → Prop} {g : Int → Int → V} {f : Int → Int → α} (P : PE Y.X e (tOp (rI C g) (WE Y.X a) (WE Y.X b))) (hg : ∀ K F i j, Enc.rep K F (g i j) (f i j))
    (h : Ev Y s a fun A s1 => ∃ i : Int, A = pu i ∧ Ev Y s1 b fun B s2 => ∃ j : Int, B = pu j ∧ C i j ∧ Q (pu (f i j)) s2) : Ev Y s e Q :=
  ev2 P (h.mono fun A s1 ⟨i, ea, h1⟩ => h1.mono fun B s2 ⟨j, eb, hc, q⟩ F0 σ H F v u e0 S rv ru => by
    subst ea eb
    exact ⟨i, j, rv, ru, hc, _, s2, F, e0, hg _ _ _ _, S, q⟩)
theorem evp_ints {α : Type} [Enc α] {C : Int → Int → Prop} {g : Int → Int → V} {f : Int → Int → α} {i j : Int} (P : PE Y.X e (tOp (rI C g) (WE Y.X a) (WE Y.X b))) (hg : ∀ K F i j, Enc.rep K F (g i j) (f i j))
    (ha : EvP Y s a (pu i)) (hb : EvP Y s b (pu j)) (hc : C i j) : EvP Y s e (pu (f i j)) :=
  .of (ev_ints P hg (.of ha ⟨i, rfl, .of hb ⟨j, rfl, hc, rfl, rfl⟩⟩))
theorem ev_ints0 {Q : Pv → DSt → Prop} {α : Type} [Enc α] {g : Int → Int → V} {f : Int → Int → α} (P : PE Y.X e (tOp (rI0 g) (WE Y.X a) (WE Y.X b))) (hg : ∀ K F i j, Enc.rep K F (g i j) (f i j))
    (h : Ev Y s a fun A s1 => ∃ i : Int, A = pu i ∧ Ev Y s1 b fun B s2 => ∃ j : Int, B = pu j ∧ Q (pu (f i j)) s2) : Ev Y s e Q :=
  ev2 P (h.mono fun A s1 ⟨i, ea, h1⟩ => h1.mono fun B s2 ⟨j, eb, q⟩ F0 σ H F v u e0 S rv ru => by
    subst ea eb
    exact ⟨i, j, rv, ru, _, s2, F, e0, hg _ _ _ _, S, q⟩)
theorem evp_ints0 {α : Type} [Enc α] {g : Int → Int → V} {f : Int → Int → α} {i j : Int} (P : PE Y.X e (tOp (rI0 g) (WE Y.X a) (WE Y.X b))) (hg : ∀ K F i j, Enc.rep K F (g i j) (f i j))
    (ha : EvP Y s a (pu i)) (hb : EvP Y s b (pu j)) : EvP Y s e (pu (f i j)) :=
  .of (ev_ints0 P hg (.of ha ⟨i, rfl, .of hb ⟨j, rfl, rfl, rfl⟩⟩))
section
variable {i j : Int} {Q : Pv → DSt → Prop}
theorem evp_add (ha : EvP Y s a (pu i)) (hb : EvP Y s b (pu j)) : EvP Y s (.BinOp a .Add b pos) (pu (i + j)) := evp_ints0 (f := fun i j => i + j) (pe_op op_add pe_we pe_we) (fun _ _ _ _ => rfl) ha hb
theorem evp_sub (ha : EvP Y s a (pu i)) (hb : EvP Y s b (pu j)) : EvP Y s (.BinOp a .Sub b pos) (pu (i - j)) := evp_ints0 (f := fun i j => i - j) (pe_op op_sub pe_we pe_we) (fun _ _ _ _ => rfl) ha hb
theorem evp_mul (ha : EvP Y s a (pu i)) (hb : EvP Y s b (pu j)) (hc : CMul i j) : EvP Y s (.BinOp a .Mult b pos) (pu (i * j)) := evp_ints (f := fun i j => i * j) (pe_op op_mul pe_we pe_we) (fun _ _ _ _ => rfl) ha hb hc
theorem evp_mod (ha : EvP Y s a (pu i)) (hb : EvP Y s b (pu j)) (hc : 0 < j) : EvP Y s (.BinOp a .Mod b pos) (pu (i % j)) := evp_ints (f := fun i j => i % j) (pe_op op_mod pe_we pe_we) (fun _ _ _ _ => rfl) ha hb hc
theorem evp_fdiv (ha : EvP Y s a (pu i)) (hb : EvP Y s b (pu j)) (hc : CDiv i j) : EvP Y s (.BinOp a .FloorDiv b pos) (pu (i / j)) := evp_ints (f := fun i j => i / j) (pe_op op_fdiv pe_we pe_we) (fun _ _ _ _ => rfl) ha hb hc
theorem evp_pow (ha : EvP Y s a (pu i)) (hb : EvP Y s b (pu j)) (hc : CPow i j) : EvP Y s (.BinOp a .Pow b pos) (pu (i ^ j.toNat)) := evp_ints (f := fun i j => i ^ j.toNat) (pe_op op_pow pe_we pe_we) (fun _ _ _ _ => rfl) ha hb hc
end
end
end Sp
set_option maxHeartbeats 4000000
namespace Sp
open PySem L2
open PySem.W (Datum DatumOrd SomeDatum Holds HoldAll)
instance txtDatum : Datum (List Nat) where
  toD x := .str (toStr x)
  plain _ := rfl
  eqv a b := by
    simp only [PyData.eqv]
    rw [Bool.eq_iff_iff, beq_iff_eq, decide_eq_true_eq]
    exact ⟨toStr_inj, fun h => by rw [h]⟩
  depth := 0
  depth_le _ := Nat.le_refl _
instance txtOrd : DatumOrd (List Nat) where
  toDatum := txtDatum
  lt a b := decide (a < b)
  alike a b := DatumOrd.alike (toStr a) (toStr b)
  notNone a := DatumOrd.notNone (toStr a)
  lt_eq a b := by
    have h := DatumOrd.lt_eq (toStr a) (toStr b)
    refine h.trans ?_
    show decide ((toStr a).cps.toList < (toStr b).cps.toList) = _
    rw [toStr_cps, toStr_cps]
instance : SomeDatum (List Nat) := ⟨fun _ => by show PyData.eqv .none (.str _) = false; simp only [PyData.eqv], fun _ => by show PyData.eqv (.str _) .none = false; simp only [PyData.eqv]⟩
class Dne (α β : Type) [DecidableEq α] [DecidableEq β] [Datum α] [Datum β] : Prop where
  ne : ∀ (a : α) (b : β), PyData.eqv (Datum.toD a) (Datum.toD b) = false
  ne' : ∀ (a : α) (b : β), PyData.eqv (Datum.toD b) (Datum.toD a) = false
section
variable {α β γ δ : Type} [DecidableEq α] [Datum α] [DecidableEq β] [Datum β] [DecidableEq γ] [Datum γ] [DecidableEq δ] [Datum δ]
instance sumDatum [Dne α β] : Datum (α ⊕ β) where
  toD x := match x with
    | .inl a => Datum.toD a
    | .inr b => Datum.toD b
  plain x := by
    cases x with
    | inl a => exact Datum.plain a
    | inr b => exact Datum.plain b
  eqv x y := by
    cases x with
    | inl a =>
      cases y with
      | inl b => show PyData.eqv (Datum.toD a) (Datum.toD b) = _; rw [Datum.eqv]; simp
      | inr b => show PyData.eqv (Datum.toD a) (Datum.toD b) = _; rw [Dne.ne]; simp
    | inr a =>
      cases y with
      | inl b => show PyData.eqv (Datum.toD a) (Datum.toD b) = _; rw [Dne.ne']; simp
      | inr b => show PyData.eqv (Datum.toD a) (Datum.toD b) = _; rw [Datum.eqv]; simp
  depth := max (Datum.depth α) (Datum.depth β)
  depth_le x := by
    cases x with
    | inl a => exact Nat.le_trans (Datum.depth_le a) (Nat.le_max_left _ _)
    | inr b => exact Nat.le_trans (Datum.depth_le b) (Nat.le_max_right _ _)
instance : Dne Int (List Nat) := ⟨fun _ _ => rfl, fun _ _ => rfl⟩
instance : Dne Bool (List Nat) := ⟨fun _ _ => rfl, fun _ _ => rfl⟩
instance : Dne Unit (List Nat) := ⟨fun _ _ => rfl, fun _ _ => rfl⟩
instance : Dne (List α) (List Nat) := ⟨fun _ _ => rfl, fun _ _ => rfl⟩
instance : Dne (Tup α) (List Nat) := ⟨fun _ _ => rfl, fun _ _ => rfl⟩
instance : Dne (α × β) (List Nat) := ⟨fun _ _ => rfl, fun _ _ => rfl⟩
instance : Dne (T3 α β γ) (List Nat) := ⟨fun _ _ => rfl, fun _ _ => rfl⟩
instance : Dne (T4 α β γ δ) (List Nat) := ⟨fun _ _ => rfl, fun _ _ => rfl⟩
instance [SomeDatum α] [Dne α (List Nat)] : Dne (Option α) (List Nat) := ⟨fun a b => by cases a with
  | none => rfl
  | some a => exact Dne.ne a b, fun a b => by cases a with
  | none => rfl
  | some a => exact Dne.ne' a b⟩
end
class Dat (α : Type) [DecidableEq α] [Datum α] [Enc α] : Prop where
  dp : ∀ {K : Frag} {F : Hp} {v : V} {a : α}, Enc.rep K F v a → Dp K F v (Datum.toD a)
instance : Dat Int := ⟨fun h => by cases h; exact .int _⟩
instance : Dat Bool := ⟨fun h => by cases h; exact .bl _⟩
instance : Dat Unit := ⟨fun h => by cases h; exact .non⟩
instance datTxt : Dat (List Nat) := ⟨fun h => by cases h; exact .str _⟩
section
variable {α β γ δ : Type} [DecidableEq α] [Datum α] [Enc α] [Dat α] [DecidableEq β] [Datum β] [Enc β] [Dat β] [DecidableEq γ] [Datum γ] [Enc γ] [Dat γ] [DecidableEq δ] [Datum δ] [Enc δ] [Dat δ]
theorem dpAll {K : Frag} {F : Hp} {vs : List V} {xs : List α} (h : Vs K F vs xs) : DpAll K F vs (xs.map Datum.toD) := by
  induction h with
  | nil => exact .nil
  | cons r _ ih => exact .cons (Dat.dp r) ih
instance datList : Dat (List α) := ⟨fun ⟨p, vs, h1, h2, h3⟩ => by subst h1; exact .lst h2 (dpAll h3)⟩
instance : Dat (Tup α) := ⟨fun ⟨p, vs, h1, h2, h3⟩ => by subst h1; exact .tup h2 (dpAll h3)⟩
instance : Dat (α × β) := ⟨fun ⟨p, a, b, h1, h2, h3, h4⟩ => by subst h1; exact .tup (.of h2) (.cons (Dat.dp h3) (.cons (Dat.dp h4) .nil))⟩
instance : Dat (T3 α β γ) := ⟨fun ⟨p, a, b, c, h1, h2, h3, h4, h5⟩ => by subst h1; exact .tup (.of h2) (.cons (Dat.dp h3) (.cons (Dat.dp h4) (.cons (Dat.dp h5) .nil)))⟩
instance : Dat (T4 α β γ δ) := ⟨fun ⟨p, a, b, c, d, h1, h2, h3, h4, h5, h6⟩ => by subst h1; exact .tup (.of h2) (.cons (Dat.dp h3) (.cons (Dat.dp h4) (.cons (Dat.dp h5) (.cons (Dat.dp h6) .nil))))⟩
instance [SomeDatum α] : Dat (Option α) := ⟨fun {K F v a} h => by
  cases a with
  | none => cases h; exact .non
  | some a => exact Dat.dp (α := α) h⟩
instance datSum [Dne α β] : Dat (α ⊕ β) := ⟨fun {K F v a} h => by
  cases a with
  | inl a => exact Dat.dp (α := α) h
  | inr a => exact Dat.dp (α := β) h⟩
theorem enc_holds {X : Cx} {pins : List (Addr × Obj)} {σ : St} {H : Hp} {s : Shared} {v : V} {u : Value} {a : α} (I : Inv X pins σ H s) (r : Enc.rep X.K H v a) (rv : RelV v u) : Holds s.heap u a := Dp.reads I _ v u (Dat.dp r) rv
theorem vs_holds {X : Cx} {pins : List (Addr × Obj)} {σ : St} {H : Hp} {s : Shared} {vs : List V} {us : List Value} {xs : List α} (I : Inv X pins σ H s) (r : Vs X.K H vs xs) (rv : Vals vs us) : HoldAll s.heap us xs := Dp.readsAll I _ vs us (dpAll r) rv
end
def srt {α : Type} [DecidableEq α] [DatumOrd α] (xs : List α) : List α := xs.mergeSort fun a b => !DatumOrd.lt b a
section
variable {X : Cx} {α β : Type} [DecidableEq α] [Enc α]
def LRd (K : Frag) (H : Hp) (y : V) (xs : List α) : Prop := ∃ p zs, y = .ref p ∧ SqL K H p zs ∧ Vs K H zs xs
section
variable [Datum α] [Dat α]
theorem op_eqT (hu : X.A.units + 64 < cLine) (hd : Datum.depth α ≤ 60) : OpR X (compareOp .Eq) (fun x y H Q => ∃ a b : α, Enc.rep X.K H x a ∧ Enc.rep X.K H y b ∧ Q (.bl (decide (a = b))) H) := by
  intro pins s σ H x y v u Q I rx ry ⟨a, b, ha, hb, q⟩
  exact PySem.W.eq_datum (enc_holds I ha rx) (enc_holds I hb ry) (by omega) ⟨.bl _, H, I, rfl, q⟩
theorem op_neT (hu : X.A.units + 64 < cLine) (hd : Datum.depth α ≤ 60) : OpR X (compareOp .NotEq) (fun x y H Q => ∃ a b : α, Enc.rep X.K H x a ∧ Enc.rep X.K H y b ∧ Q (.bl (decide (a ≠ b))) H) := by
  intro pins s σ H x y v u Q I rx ry ⟨a, b, ha, hb, q⟩
  exact PySem.W.ne_datum (enc_holds I ha rx) (enc_holds I hb ry) (by omega) ⟨.bl _, H, I, rfl, q⟩
theorem op_inT (hu : X.A.units + 64 < cLine) (hd : Datum.depth α ≤ 60) : OpR X (compareOp .In) (fun x y H Q => ∃ (a : α) (xs : List α), Enc.rep X.K H x a ∧ LRd X.K H y xs ∧ Q (.bl (decide (a ∈ xs))) H) := by
  intro pins s σ H x y v u Q I rx ry ⟨a, xs, ha, ⟨p, zs, e, hq, hz⟩, q⟩
  subst e
  obtain ⟨its, rv, hl, _⟩ := I.list hq
  cases ry
  exact PySem.W.in_list_datum (vs := its.toArray) hl.isList (vs_holds I hz rv) (enc_holds I ha rx) (by omega) ⟨.bl _, H, I, rfl, q⟩
theorem op_ninT (hu : X.A.units + 64 < cLine) (hd : Datum.depth α ≤ 60) : OpR X (compareOp .NotIn) (fun x y H Q => ∃ (a : α) (xs : List α), Enc.rep X.K H x a ∧ LRd X.K H y xs ∧ Q (.bl (decide (a ∉ xs))) H) := by
  intro pins s σ H x y v u Q I rx ry ⟨a, xs, ha, ⟨p, zs, e, hq, hz⟩, q⟩
  subst e
  obtain ⟨its, rv, hl, _⟩ := I.list hq
  cases ry
  exact PySem.W.notIn_list_datum (vs := its.toArray) hl.isList (vs_holds I hz rv) (enc_holds I ha rx) (by omega) ⟨.bl _, H, I, rfl, q⟩
abbrev cnt (xs : List α) (x : α) : Nat := xs.countP fun y => decide (y = x)
theorem mt_countT (hu : X.A.units + 64 < cLine) (hd : Datum.depth α ≤ 60) : MtR X "list.count" (fun y vs H Q => ∃ (a : α) (xs : List α) (x : V), vs = [x] ∧ Enc.rep X.K H x a ∧ LRd X.K H y xs ∧ Q (.int (cnt xs a : Nat)) H) := by
  intro pins s σ H y vs u us Q I ry rxs ⟨a, xs, x, ev, ha, ⟨p, zs, e, hq, hz⟩, q⟩
  subst e ev
  obtain ⟨ux, rfl, rx⟩ := rxs.one
  obtain ⟨its, rv, hl, _⟩ := I.list hq
  cases ry
  exact PySem.W.count_list_datum (vs := its.toArray) hl.isList (vs_holds I hz rv) (enc_holds I ha rx) (by omega) ⟨.int _, H, I.tok _, ⟨_, rfl⟩, q⟩
theorem each_of {K : Frag} {H : Hp} : ∀ {zs : List V} {its : List Value} {xs : List α}, Vs K H zs xs → Vals zs its → PySem.W.EachIs (fun u a => ∃ z, Enc.rep K H z a ∧ RelV z u) its xs
  | _, _, _, .nil, h => by cases h; exact .nil
  | _, _, _, .cons r t, h => by
    cases h with
    | cons r2 t2 => exact .cons ⟨_, r, r2⟩ (each_of t t2)
theorem each_back {K : Frag} {H : Hp} : ∀ {its : List Value} {xs : List α}, PySem.W.EachIs (fun u a => ∃ z, Enc.rep K H z a ∧ RelV z u) its xs → ∃ zs, Vs K H zs xs ∧ Vals zs its
  | _, _, .nil => ⟨[], .nil, .nil⟩
  | _, _, .cons ⟨z, r1, r2⟩ t => by
    obtain ⟨zs, h1, h2⟩ := each_back t
    exact ⟨z :: zs, .cons r1 h1, .cons r2 h2⟩
end
class Srtb (α : Type) [DecidableEq α] [Datum α] : Prop where
  kd : (∀ a : α, ∃ x r, Datum.toD a = .tuple (x :: r)) ∨ ∀ a : α, Datum.toD a ≠ .none ∧ ∀ xs, Datum.toD a ≠ .tuple xs
instance : Srtb Int := ⟨.inr fun _ => ⟨(by intro h; cases h), (by intro _ h; cases h)⟩⟩
instance : Srtb (List Nat) := ⟨.inr fun _ => ⟨(by intro h; cases h), (by intro _ h; cases h)⟩⟩
section
variable {γ ε : Type} [DecidableEq β] [DecidableEq γ] [DecidableEq ε] [Datum α] [Datum β] [Datum γ] [Datum ε]
instance : Srtb (List α) := ⟨.inr fun _ => ⟨(by intro h; cases h), (by intro _ h; cases h)⟩⟩
instance : Srtb (α × β) := ⟨.inl fun _ => ⟨_, _, rfl⟩⟩
instance : Srtb (T3 α β γ) := ⟨.inl fun _ => ⟨_, _, rfl⟩⟩
instance : Srtb (T4 α β γ ε) := ⟨.inl fun _ => ⟨_, _, rfl⟩⟩
end
section
variable [DatumOrd α] [Dat α]
theorem sort_alike (xs : List α) : PySem.W.AllAlike (xs.map Datum.toD) := fun d hd e he => by
  obtain ⟨a, _, rfl⟩ := List.mem_map.mp hd
  obtain ⟨b, _, rfl⟩ := List.mem_map.mp he
  exact DatumOrd.alike a b
theorem sort_able [Srtb α] (xs : List α) : PySem.W.Sortable (xs.map Datum.toD) := by
  rcases Srtb.kd (α := α) with k | k
  · refine .inl fun d hd => ?_
    obtain ⟨a, _, rfl⟩ := List.mem_map.mp hd
    exact k a
  · refine .inr fun d hd => ?_
    obtain ⟨a, _, rfl⟩ := List.mem_map.mp hd
    exact k a
theorem srt_eq (xs : List α) : xs.mergeSort (PySem.W.dataLe false Datum.toD) = srt xs := by
  unfold srt
  congr 1
  funext a b
  show (!PySem.W.dataLt (Datum.toD b) (Datum.toD a)) = _
  rw [DatumOrd.lt_eq]
theorem toD_inj {a b : α} (h : Datum.toD a = Datum.toD b) : a = b := by
  have h1 := Datum.eqv a b
  have h2 := Datum.eqv a a
  rw [h] at h2
  rw [h] at h1
  rw [h1] at h2
  simpa using h2
theorem holds_one {h : Heap} {v : Value} {a b : α} (x : Holds h v a) (y : Holds h v b) : a = b := by
  obtain ⟨as, r⟩ := x
  obtain ⟨bs, r2⟩ := y
  have e1 := SeqAt.readOf_plain (Datum.plain a) r
  have e2 := SeqAt.readOf_plain (Datum.plain b) r2
  exact toD_inj (e1.symm.trans e2)
end
theorem vs_ints {K : Frag} {H : Hp} : ∀ {zs : List V} {ns : List Int}, Vs K H zs ns → zs = ns.map V.int
  | _, _, .nil => rfl
  | _, _, .cons r t => by rw [List.map_cons, ← vs_ints t]; congr 1
theorem vs_txts {K : Frag} {H : Hp} : ∀ {zs : List V} {ns : List (List Nat)}, Vs K H zs ns → zs = (ns.map toStr).map V.str
  | _, _, .nil => rfl
  | _, _, .cons r t => by rw [List.map_cons, List.map_cons, ← vs_txts t]; congr 1
theorem cr_sumT (hc : X.calm = true) : CallR X (.builtin "sum") (fun vs H Q => ∃ y, ∃ ns : List Int, vs = [y] ∧ LRd X.K H y ns ∧ Q (.int ns.sum) H) := by
  intro pins s σ H vs us Q I r ⟨y, ns, ev, ⟨p, zs, e, hq, hz⟩, q⟩
  subst e ev
  rw [vs_ints hz] at hq
  exact cr_sum hc pins s σ H _ us Q I r ⟨p, ns, rfl, hq, q⟩
def joinT (a : List Nat) : List (List Nat) → List Nat
  | [] => []
  | [x] => x
  | x :: y :: r => x ++ a ++ joinT a (y :: r)
end
end Sp
set_option maxHeartbeats 4000000
namespace Sp
open PySem L2
abbrev Rvs (K : Frag) (F : Hp) : List V → List Pv → Prop := Paired fun v A => A.rep K F v
theorem Rvs.mono {K : Frag} {F F' : Hp} {vs : List V} {As : List Pv} (h : Rvs K F vs As) (e : Ext F F') : Rvs K F' vs As := Paired.mapP h fun _ _ r => Pv.mono _ r e
def Evs (Y : DX) (s : DSt) (es : List Expr) (Q : List Pv → DSt → Prop) : Prop :=
  ∀ F0 σ H F, Ext F0 F → Sta Y s σ H F → WA Y.X es σ H fun vs H' => ∃ As s' F', Ext F0 F' ∧ Rvs Y.X.K F' vs As ∧ Sta Y s' σ H' F' ∧ Q As s'
section
variable {Y : DX} {s : DSt} {e a b c : Expr} {es : List Expr} {pos : Pos} {Q : Pv → DSt → Prop}
theorem evs_nil {Q : List Pv → DSt → Prop} (h : Q [] s) : Evs Y s [] Q := fun F0 σ H F e0 S => .of pa_nil ⟨[], s, F, e0, .nil, S, h⟩
theorem evs_cons {Q : List Pv → DSt → Prop} (h : Ev Y s e fun A s1 => Evs Y s1 es fun As s2 => Q (A :: As) s2) (hs : starEach (e :: es) Y.X.env = (false, eval e Y.X.env) :: starEach es Y.X.env := by rfl) : Evs Y s (e :: es) Q := fun F0 σ H F e0 S => by
  refine .of (pa_cons pe_we pa_wa hs) ?_
  refine (h F σ H F (.refl _) S).mono fun v H1 ⟨A, s1, F1, e1, r1, S1, q1⟩ => ?_
  refine (q1 F1 σ H1 F1 (.refl _) S1).mono fun vs H2 ⟨As, s2, F2, e2, r2, S2, q2⟩ => ?_
  exact ⟨A :: As, s2, F2, (e0.trans e1).trans e2, .cons (A.mono r1 e2) r2, S2, q2⟩
def EvsP (Y : DX) (s : DSt) (es : List Expr) (As : List Pv) : Prop :=
  ∀ F0 σ H F, Ext F0 F → Sta Y s σ H F → WA Y.X es σ H fun vs H' => ∃ F', Ext F0 F' ∧ Rvs Y.X.K F' vs As ∧ Sta Y s σ H' F'
theorem Evs.of {As : List Pv} {Q : List Pv → DSt → Prop} (h : EvsP Y s es As) (q : Q As s) : Evs Y s es Q := fun F0 σ H F e0 S => (h F0 σ H F e0 S).mono fun vs H' ⟨F', e1, r, S'⟩ => ⟨As, s, F', e1, r, S', q⟩
theorem Evs.mono {Q Q' : List Pv → DSt → Prop} (h : Evs Y s es Q) (k : ∀ A s', Q A s' → Q' A s') : Evs Y s es Q' := fun F0 σ H F e0 S => (h F0 σ H F e0 S).mono fun v H' ⟨A, s', F', e1, r, S', q⟩ => ⟨A, s', F', e1, r, S', k _ _ q⟩
theorem EvsP.of {As : List Pv} (h : Evs Y s es fun Bs s' => Bs = As ∧ s' = s) : EvsP Y s es As := fun F0 σ H F e0 S => (h F0 σ H F e0 S).mono fun v H' ⟨B, s', F', e1, r, S', q1, q2⟩ => by subst q1 q2; exact ⟨F', e1, r, S'⟩
theorem evsp_nil : EvsP Y s [] [] := .of (evs_nil ⟨rfl, rfl⟩)
theorem evsp_cons {A : Pv} {As : List Pv} (h : EvP Y s e A) (k : EvsP Y s es As) (hs : starEach (e :: es) Y.X.env = (false, eval e Y.X.env) :: starEach es Y.X.env := by rfl) : EvsP Y s (e :: es) (A :: As) :=
  .of (evs_cons (.of h (.of k ⟨rfl, rfl⟩)) hs)
section
variable {α β γ : Type} [Enc α] [Enc β] [Enc γ]
theorem rvs_pu {K : Frag} {F : Hp} {vs : List V} : ∀ {xs : List α}, Rvs K F vs (xs.map pu) → Vs K F vs xs := by
  induction vs with
  | nil =>
    intro xs h
    cases xs with
    | nil => exact .nil
    | cons x xs => cases h
  | cons v vs ih =>
    intro xs h
    cases xs with
    | nil => cases h
    | cons x xs =>
      cases h with
      | cons r t => exact .cons r (ih t)
theorem Vs.length {K : Frag} {F : Hp} {vs : List V} {xs : List α} (h : Vs K F vs xs) : vs.length = xs.length := Paired.length h
theorem po_list {σ : St} {F0 : Hp} {H F : Hp} {vs : List V} {xs : List α} (e0 : Ext F0 F) (S : Sta Y s σ H F) (r : Vs Y.X.K F vs xs) (q : Q (pu xs) s) : ∀ p, H p = none → Po Y σ F0 Q (.ref p) (upd H p (.lst vs)) := fun p hp => by
  have hF := S.free hp
  exact ⟨pu xs, s, upd F p (.lst vs), e0.trans (Ext.grow hF), ⟨p, vs, rfl, .of upd_same, r.mono (Ext.grow hF)⟩, S.newF hp rfl, q⟩
theorem po_listO {σ : St} {F0 : Hp} {H F : Hp} {vs : List V} {xs : List α} (e0 : Ext F0 F) (S : Sta Y s σ H F) (r : Vs Y.X.K F vs xs) (q : ∀ p, Q (raw (.ref p)) ⟨s.ρ, (p, lstc xs) :: s.gs⟩) : ∀ p, H p = none → Po Y σ F0 Q (.ref p) (upd H p (.lst vs)) := fun p hp =>
  ⟨raw (.ref p), _, F, e0, rfl, S.newO (c := lstc xs) hp rfl ⟨vs, rfl, r⟩, q p⟩
theorem po_tup {σ : St} {F0 : Hp} {H F : Hp} {vs : List V} {A : Pv} (e0 : Ext F0 F) (S : Sta Y s σ H F) (r : ∀ F' p, Ext F F' → F' p = some (.tup vs) → A.rep Y.X.K F' (.ref p)) (q : Q A s) : ∀ p, H p = none → Po Y σ F0 Q (.ref p) (upd H p (.tup vs)) := fun p hp => by
  have hF := S.free hp
  exact ⟨A, s, upd F p (.tup vs), e0.trans (Ext.grow hF), r _ p (Ext.grow hF) upd_same, S.newF hp rfl, q⟩
theorem ev_list (h : Evs Y s es fun As s' => ∃ xs : List α, As = xs.map pu ∧ xs.length ≤ sizeLine ∧ Q (pu xs) s') : Ev Y s (.List es pos) Q := fun F0 σ H F e0 S => by
  refine .of (pe_lst pa_wa) ((h F0 σ H F e0 S).mono fun vs H1 ⟨As, s1, F1, e1, r1, S1, xs, ea, hl, q⟩ => ?_)
  subst ea
  have r := rvs_pu r1
  exact ⟨by rw [r.length]; exact hl, po_list e1 S1 r q⟩
theorem ev_listO (h : Evs Y s es fun As s' => ∃ xs : List α, As = xs.map pu ∧ xs.length ≤ sizeLine ∧ ∀ p, Q (raw (.ref p)) ⟨s'.ρ, (p, lstc xs) :: s'.gs⟩) : Ev Y s (.List es pos) Q := fun F0 σ H F e0 S => by
  refine .of (pe_lst pa_wa) ((h F0 σ H F e0 S).mono fun vs H1 ⟨As, s1, F1, e1, r1, S1, xs, ea, hl, q⟩ => ?_)
  subst ea
  have r := rvs_pu r1
  exact ⟨by rw [r.length]; exact hl, po_listO e1 S1 r q⟩
theorem evp_list {xs : List α} (h : EvsP Y s es (xs.map pu)) (hl : xs.length ≤ sizeLine := by decide) : EvP Y s (.List es pos) (pu xs) := .of (ev_list (.of h ⟨xs, rfl, hl, rfl, rfl⟩))
theorem ev_tupH (h : Evs Y s es fun As s' => ∃ xs : List α, As = xs.map pu ∧ xs.length ≤ sizeLine ∧ Q (pu (PySem.W.Tup.mk xs)) s') {k : Nat} : Ev Y s (.Tuple es k pos) Q := fun F0 σ H F e0 S => by
  refine .of (pe_tup pa_wa) ((h F0 σ H F e0 S).mono fun vs H1 ⟨As, s1, F1, e1, r1, S1, xs, ea, hl, q⟩ => ?_)
  subst ea
  have r := rvs_pu r1
  exact ⟨by rw [r.length]; exact hl, po_tup (A := pu (PySem.W.Tup.mk xs)) e1 S1 (fun F' p e' hs => ⟨p, vs, rfl, .of hs, r.mono e'⟩) q⟩
theorem ev_tup2 (h : Evs Y s es fun As s' => ∃ (x : α) (y : β), As = [pu x, pu y] ∧ Q (pu (x, y)) s') {k : Nat} : Ev Y s (.Tuple es k pos) Q := fun F0 σ H F e0 S => by
  refine .of (pe_tup pa_wa) ((h F0 σ H F e0 S).mono fun vs H1 ⟨As, s1, F1, e1, r1, S1, x, y, ea, q⟩ => ?_)
  subst ea
  obtain ⟨v, w, rfl, rv, rw'⟩ : ∃ v w, vs = [v, w] ∧ (pu x).rep Y.X.K F1 v ∧ (pu y).rep Y.X.K F1 w := by
    cases r1 with
    | cons p q => cases q with
      | cons p' q' => cases q'; exact ⟨_, _, rfl, p, p'⟩
  exact ⟨by show 2 ≤ sizeLine; decide, po_tup (A := pu (x, y)) e1 S1 (fun F' p e' hs => ⟨p, v, w, rfl, hs, Enc.mono rv e', Enc.mono rw' e'⟩) q⟩
theorem ev_tup3 (h : Evs Y s es fun As s' => ∃ (x : α) (y : β) (z : γ), As = [pu x, pu y, pu z] ∧ Q (pu (PySem.W.T3.mk x y z)) s') {k : Nat} : Ev Y s (.Tuple es k pos) Q := fun F0 σ H F e0 S => by
  refine .of (pe_tup pa_wa) ((h F0 σ H F e0 S).mono fun vs H1 ⟨As, s1, F1, e1, r1, S1, x, y, z, ea, q⟩ => ?_)
  subst ea
  obtain ⟨v, w, u, rfl, rv, rw', ru⟩ : ∃ v w u, vs = [v, w, u] ∧ (pu x).rep Y.X.K F1 v ∧ (pu y).rep Y.X.K F1 w ∧ (pu z).rep Y.X.K F1 u := by
    cases r1 with
    | cons p q => cases q with
      | cons p' q' => cases q' with
        | cons p2 q2 => cases q2; exact ⟨_, _, _, rfl, p, p', p2⟩
  exact ⟨by show 3 ≤ sizeLine; decide, po_tup (A := pu (PySem.W.T3.mk x y z)) e1 S1 (fun F' p e' hs => ⟨p, v, w, u, rfl, hs, Enc.mono rv e', Enc.mono rw' e', Enc.mono ru e'⟩) q⟩
theorem evp_B1 {A B : Pv} {x : Str} {p : Pos} {id : String} {r : List V → Hp → VK → Prop} (hc : CallR Y.X (.builtin id) r) (hg : Gl Y.X x) (hm : Y.X.mg x = none) (hv : bootBuiltins x = some (.builtin id)) (ha : EvP Y s a A)
    (h : ∀ F0 σ H F v, Ext F0 F → Sta Y s σ H F → A.rep Y.X.K F v → r [v] H (Pp Y s σ F0 B)) (hn : x ≠ "__name__" := by decide) (hdb : (x == ("__debug__" : Str)) = false := by decide)
    (he : starEach [a] Y.X.env = (false, eval a Y.X.env) :: starEach [] Y.X.env := by rfl) : EvP Y s (.Call (.Name x p) [a] [] pos) B := fun F0 σ H F e0 S => by
  refine .of (pe_callB hc hg hm hv (pa_cons pe_we pa_nil he) hn hdb he (by rfl)) ?_
  refine (ha F0 σ H F e0 S).mono fun v H1 ⟨F1, e1, r1, S1⟩ => ?_
  exact h F0 σ H1 F1 v e1 S1 r1
theorem ev_B1 {x : Str} {p : Pos} {id : String} {r : List V → Hp → VK → Prop} (hc : CallR Y.X (.builtin id) r) (hg : Gl Y.X x) (hm : Y.X.mg x = none) (hv : bootBuiltins x = some (.builtin id))
    (h : Ev Y s a fun A s1 => ∀ F0 σ H F v, Ext F0 F → Sta Y s1 σ H F → A.rep Y.X.K F v → r [v] H (Po Y σ F0 Q)) (hn : x ≠ "__name__" := by decide) (hdb : (x == ("__debug__" : Str)) = false := by decide)
    (he : starEach [a] Y.X.env = (false, eval a Y.X.env) :: starEach [] Y.X.env := by rfl) : Ev Y s (.Call (.Name x p) [a] [] pos) Q := fun F0 σ H F e0 S => by
  refine .of (pe_callB hc hg hm hv (pa_cons pe_we pa_nil he) hn hdb he (by rfl)) ?_
  refine (h F0 σ H F e0 S).mono fun v H1 ⟨A, s1, F1, e1, r1, S1, q⟩ => ?_
  exact q F0 σ H1 F1 v e1 S1 r1
theorem ev_T1 {x : Str} {p : Pos} {T : String} {r : List V → Hp → VK → Prop} (hc : CallR Y.X (.type T) r) (hg : Gl Y.X x) (hm : Y.X.mg x = none) (hv : bootBuiltins x = some (.type T))
    (h : Ev Y s a fun A s1 => ∀ F0 σ H F v, Ext F0 F → Sta Y s1 σ H F → A.rep Y.X.K F v → r [v] H (Po Y σ F0 Q)) (hn : x ≠ "__name__" := by decide) (hdb : (x == ("__debug__" : Str)) = false := by decide)
    (he : starEach [a] Y.X.env = (false, eval a Y.X.env) :: starEach [] Y.X.env := by rfl) : Ev Y s (.Call (.Name x p) [a] [] pos) Q := fun F0 σ H F e0 S => by
  refine .of (pe_callTy hc hg hm hv (pa_cons pe_we pa_nil he) hn hdb he (by rfl)) ?_
  refine (h F0 σ H F e0 S).mono fun v H1 ⟨A, s1, F1, e1, r1, S1, q⟩ => ?_
  exact q F0 σ H1 F1 v e1 S1 r1
theorem ev_B2 {x : Str} {p : Pos} {id : String} {r : List V → Hp → VK → Prop} (hc : CallR Y.X (.builtin id) r) (hg : Gl Y.X x) (hm : Y.X.mg x = none) (hv : bootBuiltins x = some (.builtin id))
    (h : Ev Y s a fun A s1 => Ev Y s1 b fun B s2 => ∀ F0 σ H F v w, Ext F0 F → Sta Y s2 σ H F → A.rep Y.X.K F v → B.rep Y.X.K F w → r [v, w] H (Po Y σ F0 Q)) (hn : x ≠ "__name__" := by decide) (hdb : (x == ("__debug__" : Str)) = false := by decide)
    (he : starEach [a, b] Y.X.env = (false, eval a Y.X.env) :: starEach [b] Y.X.env := by rfl) (he2 : starEach [b] Y.X.env = (false, eval b Y.X.env) :: starEach [] Y.X.env := by rfl) (hpl : (backTo pos (starEach [b] Y.X.env)).any (·.1) = false := by rfl) : Ev Y s (.Call (.Name x p) [a, b] [] pos) Q := fun F0 σ H F e0 S => by
  refine .of (pe_callB hc hg hm hv (pa_cons pe_we (pa_cons pe_we pa_nil he2) he) hn hdb he hpl) ?_
  refine (h F σ H F (.refl _) S).mono fun v H1 ⟨A, s1, F1, e1, r1, S1, q⟩ => ?_
  refine (q F1 σ H1 F1 (.refl _) S1).mono fun w H2 ⟨B, s2, F2, e2, r2, S2, q2⟩ => ?_
  exact q2 F0 σ H2 F2 v w ((e0.trans e1).trans e2) S2 (A.mono r1 e2) r2
structure Bis (mg : Str → Option Value) : Prop where
  no : ∀ x : Str, x ∈ (["len", "range", "sorted", "list", "tuple", "dict", "int", "str", "abs", "min", "max", "sum", "any", "all", "enumerate", "zip", "reversed", "isinstance", "super"] : List Str) → mg x = none
section
variable {p : Pos}
end
theorem atI_of {δ ε : Type} {R : δ → ε → Prop} {l : List δ} {m : List ε} (h : Paired R l m) {i : Int} {y : ε} (k : atI m i = some y) : ∃ x, atI l i = some x ∧ R x y := by
  have hl : l.length = m.length := Paired.length h
  unfold atI at k ⊢
  rw [hl]
  cases q : ixN m.length i with
  | none => rw [q] at k; cases k
  | some j =>
    rw [q] at k
    exact prd_get h k
theorem ev_fst {j : Nat} {p2 : Pos} (hs : PlainIx (.Constant (.int 0) j p2)) (h : Ev Y s a fun A s1 => ∃ x : α × β, A = pu x ∧ Q (pu x.1) s1) : Ev Y s (.Subscript a (.Constant (.int 0) j p2) pos) Q :=
  ev2 (pe_ix ix_tup pe_we pe_we hs) (h.mono fun A s1 ⟨x, ea, q⟩ => .of evp_int fun F0 σ H F v u e0 S rv ru => by
    subst ea
    obtain ⟨p, w, w', h1, h2, h3, h4⟩ := rv
    exact ⟨p, [w, w'], 0, w, h1, ru, sqT_ext h2 S.ext, rfl, pu x.1, s1, F, e0, h3, S, q⟩)
theorem ev_snd {j : Nat} {p2 : Pos} (hs : PlainIx (.Constant (.int 1) j p2)) (h : Ev Y s a fun A s1 => ∃ x : α × β, A = pu x ∧ Q (pu x.2) s1) : Ev Y s (.Subscript a (.Constant (.int 1) j p2) pos) Q :=
  ev2 (pe_ix ix_tup pe_we pe_we hs) (h.mono fun A s1 ⟨x, ea, q⟩ => .of evp_int fun F0 σ H F v u e0 S rv ru => by
    subst ea
    obtain ⟨p, w, w', h1, h2, h3, h4⟩ := rv
    exact ⟨p, [w, w'], 1, w', h1, ru, sqT_ext h2 S.ext, rfl, pu x.2, s1, F, e0, h4, S, q⟩)
end
end
end Sp
set_option maxHeartbeats 4000000
namespace Sp
open PySem L2
structure DE where
  nx : DSt → Prop
  rt : Pv → DSt → Prop
  bk : DSt → Prop := fun _ => False
  ct : DSt → Prop := fun _ => False
def Pst (Y : DX) (F0 : Hp) (Q : DSt → Prop) : St → Hp → Prop := fun σ H => ∃ s F, Ext F0 F ∧ Sta Y s σ H F ∧ Q s
def Prt (Y : DX) (F0 : Hp) (Q : Pv → DSt → Prop) : VK := fun v H => ∃ A s σ F, Ext F0 F ∧ A.rep Y.X.K F v ∧ Sta Y s σ H F ∧ Q A s
def DE.to (D : DE) (Y : DX) (F0 : Hp) : Ends := { nx := Pst Y F0 D.nx, rt := Prt Y F0 D.rt, bk := Pst Y F0 D.bk, ct := Pst Y F0 D.ct }
def Ws (Y : DX) (s : DSt) (sts : List Stmt) (D : DE) : Prop := ∀ F0 σ H F, Ext F0 F → Sta Y s σ H F → WS Y.X sts σ H (D.to Y F0)
structure WP (X : Cx) (st : Stmt) (σ : St) (H : Hp) (D : Ends) : Prop where
  run : ∀ (pins : List (Addr × Obj)) (s : Shared), Inv X pins σ H s → wpAny (model X.prog X.w) X.A (exec st X.env) (SP X pins D) X.xe s
def W1 (Y : DX) (s : DSt) (st : Stmt) (D : DE) : Prop := ∀ F0 σ H F, Ext F0 F → Sta Y s σ H F → WP Y.X st σ H (D.to Y F0)
def wxOf (Y : DX) : WX := fun cls d σ H => ∃ e s F, Sta Y s σ H F ∧ ExcRep e cls d H ∧ Y.ex e s
structure YOk (Y : DX) : Prop where
  calm : Y.X.calm = true
  nd : Y.X.N.Nodup
  room : Room Y.k Y.X.A
  pass : PassesOwn (model Y.X.prog Y.X.w) Y.X.A Y.X.env Y.X.xe
  tk : Takes Y.X (wxOf Y)
section
variable {Y : DX} {s : DSt} {e a b c : Expr} {es : List Expr} {pos : Pos} {D D' : DE} {st : Stmt} {sts : List Stmt}
theorem ps_wp {X : Cx} : PS X st (fun D σ H => WP X st σ H D) := ⟨fun pins s _ _ _ I h => h.run pins s I⟩
theorem WP.of {X : Cx} {σ : St} {H : Hp} {t : TS} {D : Ends} (p : PS X st t) (h : t D σ H) : WP X st σ H D := ⟨fun pins s I => p.run pins s σ H D I h⟩
theorem Pst.mono {F0 F1 : Hp} {Q Q' : DSt → Prop} {σ : St} {H : Hp} (h : Pst Y F1 Q σ H) (e : Ext F0 F1) (k : ∀ s, Q s → Q' s) : Pst Y F0 Q' σ H := by
  obtain ⟨s, F, e1, S, q⟩ := h
  exact ⟨s, F, e.trans e1, S, k s q⟩
theorem Prt.mono {F0 F1 : Hp} {Q Q' : Pv → DSt → Prop} {v : V} {H : Hp} (h : Prt Y F1 Q v H) (e : Ext F0 F1) (k : ∀ A s, Q A s → Q' A s) : Prt Y F0 Q' v H := by
  obtain ⟨A, s, σ, F, e1, r, S, q⟩ := h
  exact ⟨A, s, σ, F, e.trans e1, r, S, k A s q⟩
theorem Ws.mono (h : Ws Y s sts D) (k1 : ∀ s, D.nx s → D'.nx s) (k2 : ∀ A s, D.rt A s → D'.rt A s) (k3 : ∀ s, D.bk s → D'.bk s) (k4 : ∀ s, D.ct s → D'.ct s) : Ws Y s sts D' := fun F0 σ H F e0 S =>
  (h F0 σ H F e0 S).mono (fun _ _ q => Pst.mono q (.refl _) k1) (fun _ _ q => Prt.mono q (.refl _) k2) (fun _ _ q => Pst.mono q (.refl _) k3) (fun _ _ q => Pst.mono q (.refl _) k4)
theorem ws_nil (h : D.nx s) : Ws Y s [] D := fun F0 σ H F e0 S => .of pss_nil ⟨s, F, e0, S, h⟩
theorem ws_cons (h : W1 Y s st { D with nx := fun s' => Ws Y s' sts D }) : Ws Y s (st :: sts) D := fun F0 σ H F e0 S => by
  refine .of (pss_cons ps_wp pss_ws) ?_
  have q := h F0 σ H F e0 S
  refine ⟨fun pins s' I => ?_⟩
  refine thn (q.run pins s' I) fun f s1 z => ?_
  cases f with
  | next =>
    obtain ⟨σ', H', J, s2, F2, e2, S2, w⟩ := z
    exact ⟨σ', H', J, w F0 σ' H' F2 e2 S2⟩
  | brk => exact z
  | cont => exact z
  | ret u => exact z
theorem ws_one (h : W1 Y s st D) : Ws Y s [st] D := fun F0 σ H F e0 S => .of (pss_one ps_wp) (h F0 σ H F e0 S)
theorem w1_expr (h : Ev Y s e fun _ s' => D.nx s') (hs : swapsWith e none pos.line Y.X.env = pure false := by rfl) : W1 Y s (.Expr e pos) D := fun F0 σ H F e0 S =>
  .of (ps_expr pe_we hs) ((h F0 σ H F e0 S).mono fun v H' ⟨A, s', F', e1, r, S', q⟩ => ⟨s', F', e1, S', q⟩)
theorem w1_ret (h : Ev Y s e D.rt) : W1 Y s (.Return (some e) pos) D := fun F0 σ H F e0 S =>
  .of (ps_ret pe_we) ((h F0 σ H F e0 S).mono fun v H' ⟨A, s', F', e1, r, S', q⟩ => ⟨A, s', σ, F', e1, r, S', q⟩)
theorem w1_set {x : Str} {p2 : Pos} (i : Nat) (ok : YOk Y) (hi : Y.X.N[i]? = some x) (hx : Loc Y.X.env.scope x) (h : Ev Y s e fun A s' => D.nx ⟨s'.ρ.set i (some A), s'.gs⟩)
    (hs : swapsWith e (some (.Name x p2)) pos.line Y.X.env = pure false := by rfl) (hf : Y.X.fn x = true ∨ Y.X.env.scope.names.lookup x = some .local := by first | exact .inl rfl | exact .inr rfl) : W1 Y s (.Assign [.Name x p2] e pos) D := fun F0 σ H F e0 S =>
  .of (ps_set ok.nd hi hx pe_we hs hf) ((h F0 σ H F e0 S).mono fun v H' ⟨A, s', F', e1, r, S', q⟩ => ⟨_, F', e1, S'.set r i, q⟩)
theorem w1_if {A B : List Stmt} (h : Et Y s c fun t s' => if t = true then Ws Y s' A D else Ws Y s' B D) : W1 Y s (.If c A B pos) D := fun F0 σ H F e0 S => by
  refine .of (ps_if pt_wt pss_ws pss_ws) ((h F0 σ H F e0 S).mono fun t H' ⟨s', F', e1, S', q⟩ => ?_)
  cases t with
  | true => exact q F0 σ H' F' e1 S'
  | false => exact q F0 σ H' F' e1 S'
def Only (ws : List Nat) (σ σ' : St) : Prop := σ'.length = σ.length ∧ ∀ j, j ∉ ws → σ'[j]? = σ[j]?
theorem Only.refl {σ : St} : Only [] σ σ := ⟨rfl, fun _ _ => rfl⟩
theorem Only.set {σ : St} {i : Nat} {o : Option V} : Only [i] σ (σ.set i o) := ⟨List.length_set .., fun j hj => List.getElem?_set_ne (fun e => hj (by simp [e]))⟩
theorem Only.trans {ws vs : List Nat} {σ σ1 σ2 : St} (a : Only ws σ σ1) (b : Only vs σ1 σ2) : Only (ws ++ vs) σ σ2 :=
  ⟨b.1.trans a.1, fun j hj => (b.2 j fun h => hj (List.mem_append_right _ h)).trans (a.2 j fun h => hj (List.mem_append_left _ h))⟩
def TgOk (Y : DX) {β : Type} [Enc β] (tg : Expr) (g : TG) (ws : List Nat) (f : β → Rho → Rho) : Prop :=
  PG Y.X tg g ∧ ∀ (σ : St) (H F : Hp) (v : V) (x : β) (s : DSt) (Q : St → Hp → Prop), Sta Y s σ H F → Enc.rep Y.X.K F v x → (∀ σ', Sta Y ⟨f x s.ρ, s.gs⟩ σ' H F → Only ws σ σ' → Q σ' H) → g v σ H Q
section
variable {α β γ : Type} [Enc α] [Enc β] [Enc γ]
theorem tg_name {x : Str} (nd : Y.X.N.Nodup) (i : Nat) (hi : Y.X.N[i]? = some x) (hx : Loc Y.X.env.scope x) (hf : Y.X.fn x = true ∨ Y.X.env.scope.names.lookup x = some .local := by first | exact .inl rfl | exact .inr rfl) :
    TgOk Y (β := β) (.Name x pos) (gName i) [i] fun v ρ => ρ.set i (some (pu v)) :=
  ⟨pg_name nd hi hx hf, fun σ H F v x s Q S r k => k _ (S.set (A := pu x) r i) .set⟩
theorem tg_pair {t1 t2 : Expr} {g1 g2 : TG} {w1 w2 : List Nat} {f1 : α → Rho → Rho} {f2 : β → Rho → Rho} {k : Nat} (calm : Y.X.calm = true) (h1 : TgOk Y t1 g1 w1 f1) (h2 : TgOk Y t2 g2 w2 f2)
    (hs1 : (assignEach [t1, t2] Y.X.env).map (·.2) = assign t1 Y.X.env :: (assignEach [t2] Y.X.env).map (·.2) := by rfl) (hs2 : (assignEach [t2] Y.X.env).map (·.2) = assign t2 Y.X.env :: (assignEach [] Y.X.env).map (·.2) := by rfl)
    (hn : (assignEach [t1, t2] Y.X.env).length = 2 := by rfl) (hst : (assignEach [t1, t2] Y.X.env).findIdx? (·.1) = none := by rfl) :
    TgOk Y (β := α × β) (.Tuple [t1, t2] k pos) (gTup Y.X.K 2 (gCons g1 (gCons g2 gNil))) (w1 ++ w2) fun v ρ => f2 v.2 (f1 v.1 ρ) :=
  ⟨pg_tup calm (pgs_cons h1.1 (pgs_cons h2.1 pgs_nil hs2) hs1) hn hst, fun σ H F v x s Q S ⟨p, a, b, e, hq, ra, rb⟩ q =>
    ⟨p, [a, b], e, sqT_ext hq S.ext, rfl, a, [b], rfl, h1.2 σ H F a x.1 s _ S ra fun σ1 S1 o1 => ⟨b, [], rfl, h2.2 σ1 H F b x.2 _ _ S1 rb fun σ2 S2 o2 => ⟨rfl, q σ2 S2 (o1.trans o2)⟩⟩⟩⟩
theorem w1_asg {tg : Expr} {g : TG} {ws : List Nat} {f : β → Rho → Rho} (hg : TgOk Y tg g ws f) (h : Ev Y s e fun A s' => ∃ x : β, A = pu x ∧ D.nx ⟨f x s'.ρ, s'.gs⟩) (hs : swapsWithSole [tg] e pos.line Y.X.env = pure false := by rfl) (hw : swappedStores [tg] e Y.X.env = pure none := by rfl)
    (h1 : (assignEach [tg] Y.X.env).map (·.2) = [assign tg Y.X.env] := by rfl) : W1 Y s (.Assign [tg] e pos) D := fun F0 σ H F e0 S =>
  .of (ps_asg pe_we hg.1 hs hw h1) ((h F0 σ H F e0 S).mono fun v H' ⟨A, s', F', e1, r, S', x, ea, q⟩ => by
    subst ea
    exact hg.2 σ H' F' v x s' _ S' r fun σ' S2 _ => ⟨_, F', e1, S2, q⟩)
theorem w1_par {i j : Nat} {x y : Str} {a b : Expr} {px py pt pt2 : Pos} {kt k2 : Nat} (ok : YOk Y) (hi : Y.X.N[i]? = some x) (hj : Y.X.N[j]? = some y) (hij : i ≠ j)
    (hx : Y.X.env.scope.names.lookup x = some .local) (hy : Y.X.env.scope.names.lookup y = some .local) (h : Evs Y s [a, b] fun As s' => ∃ A B, As = [A, B] ∧ D.nx ⟨(s'.ρ.set i (some A)).set j (some B), s'.gs⟩)
    (hw : swappedStores [.Tuple [.Name x px, .Name y py] kt pt] (.Tuple [a, b] k2 pt2) Y.X.env = pure (some [x, y]) := by rfl) (hs : swapsWithSole [.Tuple [.Name x px, .Name y py] kt pt] (.Tuple [a, b] k2 pt2) pos.line Y.X.env = pure false := by rfl) :
    W1 Y s (.Assign [.Tuple [.Name x px, .Name y py] kt pt] (.Tuple [a, b] k2 pt2) pos) D := fun F0 σ H F e0 S =>
  .of (ps_par ok.calm ok.nd hi hj hij hx hy pa_wa hw hs) ((h F0 σ H F e0 S).mono fun vs H' ⟨As, s', F', e1, r, S', A, B, ea, q⟩ => by
    subst ea
    cases r with
    | cons ra rt => cases rt with
      | cons rb rn =>
        cases rn
        exact ⟨_, _, rfl, _, F', e1, (S'.set ra i).set rb j, q⟩)
theorem w1_aug {op : Operator} {r : R2} {x : Str} {p2 : Pos} (i : Nat) (ok : YOk Y) (ho : OpR Y.X (inplaceOp op) r) (hi : Y.X.N[i]? = some x) (hx : Loc Y.X.env.scope x) {A : Pv} (hA : s.ρ[i]? = some (some A))
    (h : Ev Y s e fun B s' => ∀ F0 σ H F v u, Ext F0 F → Sta Y s' σ H F → A.rep Y.X.K F v → B.rep Y.X.K F u → r v u H fun w H' => Pst Y F0 D.nx (σ.set i (some w)) H')
    (hf : Y.X.fn x = true ∨ Y.X.env.scope.names.lookup x = some .local := by first | exact .inl rfl | exact .inr rfl) : W1 Y s (.AugAssign (.Name x p2) op e pos) D := fun F0 σ H F e0 S => by
  obtain ⟨v, ev, rv⟩ := S.rep.get hA
  exact .of (ps_aug ok.nd hi hx pe_we (fun pins s σ H x y v u Q I r1 r2 t => ho pins s σ H x y v u Q I r1 r2 t) hf) ⟨v, ev, (h F σ H F (.refl _) S).mono fun u H1 ⟨B, s1, F1, e1, r1, S1, q⟩ => q F0 σ H1 F1 v u (e0.trans e1) S1 (A.mono rv e1) r1⟩
section
variable {x : Str} {p2 : Pos} (i : Nat) (ok : YOk Y) (hi : Y.X.N[i]? = some x) (hx : Loc Y.X.env.scope x) {n : Int} (hA : s.ρ[i]? = some (some (pu n)))
  (hf : Y.X.fn x = true ∨ Y.X.env.scope.names.lookup x = some .local)
include ok hi hx hA hf
end
theorem w1_addS {x : Str} {p2 : Pos} (i : Nat) (ok : YOk Y) (hi : Y.X.N[i]? = some x) (hx : Loc Y.X.env.scope x) {n : List Nat} (hA : s.ρ[i]? = some (some (pu n)))
    (hf : Y.X.fn x = true ∨ Y.X.env.scope.names.lookup x = some .local) (h : Ev Y s e fun B s' => ∃ m : List Nat, B = pu m ∧ n.length + m.length ≤ sizeLine ∧ D.nx ⟨s'.ρ.set i (some (pu (n ++ m))), s'.gs⟩) : W1 Y s (.AugAssign (.Name x p2) .Add e pos) D :=
  w1_aug i ok iop_add_str hi hx hA (h.mono fun B s' ⟨m, eb, hc, q⟩ F0 σ H F v u e0 S rv ru => by
    subst eb
    exact ⟨toStr n, toStr m, rv, ru, by rw [toStr_len, toStr_len]; exact hc, _, F, e0, S.set (A := pu (n ++ m)) (by rw [toStr_app]; rfl) i, q⟩) hf
def ItOk {β : Type} [Enc β] (K : Frag) (J : It) (F' : Hp) (items : List β) : Prop := ∀ i H2 F2, Ext F' F2 → Ext F2 H2 →
  (∀ x, items[i]? = some x → J.go i H2 ∧ ∀ v H3, J.yld i H2 v H3 → (H3 = H2 ∧ Enc.rep K F2 v x) ∨ ∃ p vs, H2 p = none ∧ H3 = upd H2 p (.tup vs) ∧ v = .ref p ∧ ∀ F3, Ext F2 F3 → F3 p = some (.tup vs) → Enc.rep K F3 v x) ∧ (items.length ≤ i → J.stop i H2)
def EvIt (Y : DX) (s : DSt) (tg iter : Expr) {β : Type} [Enc β] (items : List β) : Prop :=
  ∃ wi, PI Y.X tg iter wi ∧ ∀ F0 σ H F (R : It → Hp → Prop), Ext F0 F → Sta Y s σ H F → (∀ J H' F', Ext F0 F' → Sta Y s σ H' F' → ItOk Y.X.K J F' items → R J H') → wi σ H R
theorem ItOk.yld {J : It} {F' H2 F2 H3 : Hp} {items : List β} {i : Nat} {x : β} {v : V} {s2 : DSt} {σ : St} (h : ItOk Y.X.K J F' items) (e : Ext F' F2) (S : Sta Y s2 σ H2 F2) (hx : items[i]? = some x) (y : J.yld i H2 v H3) :
    ∃ F3, Ext F2 F3 ∧ Sta Y s2 σ H3 F3 ∧ Enc.rep Y.X.K F3 v x := by
  rcases ((h i H2 F2 e S.ext).1 x hx).2 v H3 y with ⟨rfl, r⟩ | ⟨p, vs, hp, rfl, ev, r⟩
  · exact ⟨F2, .refl _, S, r⟩
  · have hF := S.free hp
    exact ⟨_, Ext.grow hF, S.newF hp rfl, r _ (Ext.grow hF) upd_same⟩
theorem it_list {tg iter : Expr} {xs : List α} (h : EvP Y s iter (pu xs)) : EvIt Y s tg iter xs :=
  ⟨_, pi_list pe_we, fun F0 σ H F R e0 S k => (h F0 σ H F e0 S).mono fun v H' ⟨F', e1, ⟨p, vs, ev, hq, rv⟩, S'⟩ =>
    ⟨p, ev, ⟨vs, sqL_ext hq S'.ext⟩, k _ _ F' e1 S' fun i H2 F2 e2 e3 => ⟨fun x hx => by
      have hq2 := sqL_ext (sqL_ext hq e2) e3
      obtain ⟨w, hw, rw'⟩ := prd_get rv hx
      exact ⟨⟨vs, w, hq2, hw⟩, fun v H3 ⟨eh, hv⟩ => .inl ⟨eh, by
        have := hv vs hq2
        rw [hw] at this
        cases this
        exact Enc.mono rw' e2⟩⟩, fun hl => ⟨vs, sqL_ext (sqL_ext hq e2) e3, by rw [rv.length]; exact hl⟩⟩⟩⟩
end
end
end Sp
set_option maxHeartbeats 4000000
namespace Sp
open PySem L2
abbrev DSp := List Pv → Gs → (Pv → Gs → Prop) → (Exc → Gs → Prop) → Prop
structure Stg (K : Frag) (T : Tb) (gs : Gs) (H F : Hp) : Prop where
  ext : Ext F H
  ntb : ∀ a o, F a = some o → isTbl o = false
  own : ∀ p ∈ gs, F p.1 = none ∧ ∃ o, H p.1 = some o ∧ isTT o = false ∧ p.2.rep K F o
  nd : (gs.map (·.1)).Nodup
  tb : TbOk T H
abbrev ads (gs : Gs) : List Addr := gs.map (·.1)
theorem Sta.stg {Y : DX} {s : DSt} {σ : St} {H F : Hp} (S : Sta Y s σ H F) : Stg Y.X.K Y.T s.gs H F := ⟨S.ext, S.ntb, S.own, S.nd, S.tb⟩
def toSp (K : Frag) (T : Tb) (n : Nat) (d : DSp) : Sp := fun vs H Q E => vs.length = n ∧ ∃ As gs F, Rvs K F vs As ∧ Stg K T gs H F ∧
  d As gs (fun A gs' => ∀ v H' F', A.rep K F' v → Stg K T gs' H' F' → Step H F (ads gs) H' F' (ads gs') → Q v H')
    (fun e gs' => ∀ cls dd H' F', ExcRep e cls dd H' → Stg K T gs' H' F' → Step H F (ads gs) H' F' (ads gs') → E cls dd H')
section
variable {K : Frag} {T : Tb} {H0 F0 H F H' F' : Hp} {S0 : List Addr}
theorem Step.call {gs1 gs2 gs1' : Gs} (t : Step H0 F0 S0 H F (ads (gs1 ++ gs2))) (G : Stg K T (gs1 ++ gs2) H F) (c : Step H F (ads gs1) H' F' (ads gs1')) (G1 : Stg K T gs1' H' F') :
    Stg K T (gs1' ++ gs2) H' F' ∧ Step H0 F0 S0 H' F' (ads (gs1' ++ gs2)) := by
  have nd := G.nd
  rw [List.map_append, List.nodup_append] at nd
  have one : ∀ p ∈ gs2, p.1 ∉ ads gs1 := fun p hp hm => nd.2.2 _ hm _ (List.mem_map.mpr ⟨p, hp, rfl⟩) rfl
  have fr2 : ∀ p ∈ gs2, F' p.1 = none ∧ p.1 ∉ ads gs1' := fun p hp => by
    obtain ⟨h1, o, h2, h3, _⟩ := G.own p (List.mem_append_right _ hp)
    have no : ¬ (F' p.1 ≠ none ∨ p.1 ∈ ads gs1') := fun h => by
      rcases c.nw _ h with z | z | z
      · exact z h1
      · exact one p hp z
      · have := z o h2
        rw [h3] at this; cases this
    refine ⟨?_, fun h => no (.inr h)⟩
    cases q : F' p.1 with
    | none => rfl
    | some u => exact absurd (.inl (by rw [q]; simp)) no
  have own0 : ∀ a, a ∈ ads (gs1 ++ gs2) → F a = none := fun a ha => by
    obtain ⟨p, hp, e⟩ := List.mem_map.mp ha
    rw [← e]
    exact (G.own p hp).1
  have ap : ∀ {g g' : Gs}, ads (g ++ g') = ads g ++ ads g' := fun {g g'} => by unfold ads; exact List.map_append
  refine ⟨⟨G1.ext, G1.ntb, fun p hp => ?_, ?_, G1.tb⟩, t.ff.trans c.ff, fun a o h1 h2 h3 => ?_, fun a h => ?_⟩
  · rcases List.mem_append.mp hp with hp | hp
    · exact G1.own p hp
    · obtain ⟨h1, o, h2, h3, h4⟩ := G.own p (List.mem_append_right _ hp)
      exact ⟨(fr2 p hp).1, o, c.fr _ o h2 (isTT_tbl h3) (one p hp), h3, p.2.mono h4 c.ff⟩
  · rw [List.map_append, List.nodup_append]
    refine ⟨G1.nd, nd.2.1, fun a ha b hb e => ?_⟩
    obtain ⟨p, hp, e2⟩ := List.mem_map.mp hb
    exact (fr2 p hp).2 (by rw [e2, ← e]; exact ha)
  · have q := t.fr a o h1 h2 h3
    refine c.fr a o q h2 fun hm => ?_
    have hm2 : a ∈ ads (gs1 ++ gs2) := by rw [ap]; exact List.mem_append_left _ hm
    rcases t.nw a (.inr hm2) with z | z | z
    · obtain ⟨u, hu⟩ := Option.ne_none_iff_exists'.mp z
      have := t.ff a u hu
      rw [own0 a hm2] at this; cases this
    · exact h3 z
    · have := z o h1
      obtain ⟨p9, hp9, e9⟩ := List.mem_map.mp hm2
      obtain ⟨_, o9, g9, k9, _⟩ := G.own p9 hp9
      rw [e9, q] at g9
      cases g9
      rw [k9] at this; cases this
  · have key : F' a ≠ none ∨ a ∈ ads gs1' → F0 a ≠ none ∨ a ∈ S0 ∨ Fre H0 a := fun h => by
      rcases c.nw a h with z | z | z
      · exact t.nw a (.inl z)
      · exact t.nw a (.inr (by rw [ap]; exact List.mem_append_left _ z))
      · exact .inr (t.was z)
    rcases h with h | h
    · exact key (.inl h)
    · rw [ap] at h
      rcases List.mem_append.mp h with h | h
      · exact key (.inr h)
      · exact t.nw a (.inr (by rw [ap]; exact List.mem_append_right _ h))
end
section
variable {Y : DX} {s : DSt} {e a b c : Expr} {es : List Expr} {pos : Pos} {D D' : DE} {st : Stmt} {sts : List Stmt} {Q : Pv → DSt → Prop}
theorem Sta.called {σ : St} {H F H' F' : Hp} {gs1 gs2 gs1' : Gs} (S : Sta Y s σ H F) (hp : s.gs.Perm (gs1 ++ gs2)) (G1 : Stg Y.X.K Y.T gs1' H' F') (c : Step H F (ads gs1) H' F' (ads gs1')) : Sta Y ⟨s.ρ, gs1' ++ gs2⟩ σ H' F' := by
  have S2 := S.perm hp
  obtain ⟨G, t⟩ := Step.call S2.st S2.stg c G1
  exact ⟨G.ext, G.ntb, S.rep.mono c.ff, G.own, G.nd, G.tb, t⟩
theorem sp_call {n : Nat} {d : DSp} {σ : St} {F0 H F : Hp} {vs : List V} {As : List Pv} {gs1 gs2 : Gs} (e0 : Ext F0 F) (S : Sta Y s σ H F) (r : Rvs Y.X.K F vs As) (hn : As.length = n) (hp : s.gs.Perm (gs1 ++ gs2))
    (h : d As gs1 (fun A gs' => Q A ⟨s.ρ, gs' ++ gs2⟩) (fun e gs' => Y.ex e ⟨s.ρ, gs' ++ gs2⟩))
    (mono : ∀ (R R' : Pv → Gs → Prop) (E E' : Exc → Gs → Prop), (∀ A g, R A g → R' A g) → (∀ e g, E e g → E' e g) → d As gs1 R E → d As gs1 R' E') :
    toSp Y.X.K Y.T n d vs H (Po Y σ F0 Q) (L2.WE (wxOf Y) σ) := by
  have G := (S.perm hp).stg
  have nd := G.nd
  rw [List.map_append, List.nodup_append] at nd
  refine ⟨(Paired.length r).trans hn, As, gs1, F, r, ⟨G.ext, G.ntb, fun p hp => G.own p (List.mem_append_left _ hp), nd.1, G.tb⟩, mono _ _ _ _ (fun A g q v H' F' r' G1 c => ?_) (fun e g q cls dd H' F' r' G1 c => ?_) h⟩
  · exact ⟨A, _, F', e0.trans c.ff, r', S.called hp G1 c, q⟩
  · exact ⟨e, _, F', S.called hp G1 c, r', q⟩
def DMono (d : DSp) : Prop := ∀ As gs (R R' : Pv → Gs → Prop) (E E' : Exc → Gs → Prop), (∀ A g, R A g → R' A g) → (∀ e g, E e g → E' e g) → d As gs R E → d As gs R' E'
structure Df (P : Program) (w : World) (K : Frag) (mg : Str → Option Value) (base : Heap) (T : Tb) (k : Nat) (x : Str) (ps : List Str) (d : DSp) : Prop where
  ex : ∃ (f : Addr) (fd : FuncData), FnOk P w K mg base (L2.CX P w) k f fd ps (toSp K T ps.length d) ∧ mg x = some (.ref f) ∧ PySem.W.keepIn K (.ref f) = true ∧ Binds K fd ps []
  mono : DMono d
theorem ev_call {x : Str} {p : Pos} {ps : List Str} {d : DSp} {j : Nat} (G : Df Y.X.prog Y.X.w Y.X.K Y.X.mg Y.X.base Y.T j x ps d) (ok : YOk Y) (hj : j ≤ Y.k) (hg : Gl Y.X x)
    (h : Evs Y s (e :: es) fun As s1 => As.length = ps.length ∧ ∃ gs1 gs2, s1.gs.Perm (gs1 ++ gs2) ∧ d As gs1 (fun A gs' => Q A ⟨s1.ρ, gs' ++ gs2⟩) (fun e gs' => Y.ex e ⟨s1.ρ, gs' ++ gs2⟩))
    (hdb : (x == ("__debug__" : Str)) = false := by decide) (he : starEach (e :: es) Y.X.env = (false, eval e Y.X.env) :: starEach es Y.X.env := by rfl) (hpl : (backTo pos (starEach es Y.X.env)).any (·.1) = false := by rfl) : Ev Y s (.Call (.Name x p) (e :: es) [] pos) Q := fun F0 σ H F e0 S => by
  obtain ⟨⟨f, fd, F1, hm, hk, hb⟩, mono⟩ := G
  refine .of (pe_callS (E := L2.WE (wxOf Y)) F1 (ok.room.mono hj) hg hm hk hb (fun σ => passAt ok.tk σ) pa_wa hdb he hpl) ?_
  refine (h F0 σ H F e0 S).mono fun vs H1 ⟨As, s1, F1, e1, r1, S1, hl, gs1, gs2, hp, q⟩ => ?_
  exact sp_call e1 S1 r1 hl hp q (mono As gs1)
theorem pe_call0S {x : Str} {p : Pos} {k : Nat} {f : Addr} {fd : FuncData} {ps : List Str} {sp : Sp} {E : St → XK} {X : Cx} (F : FnOk X.prog X.w X.K X.mg X.base (L2.CX X.prog X.w) k f fd ps sp) (hr : Room k X.A) (hg : Gl X x) (hm : X.mg x = some (.ref f)) (hk : PySem.W.keepIn X.K (.ref f) = true) (hb : Binds X.K fd ps [])
    (hx : ∀ σ, PassesAt (L2.CX X.prog X.w) X σ (E σ)) (hdb : (x == ("__debug__" : Str)) = false := by decide) : PE X (.Call (.Name x p) [] [] pos) (tCallS sp E tNil) := by
  refine ⟨fun pins s σ H Q I h => ?_⟩
  refine wpAny_Call_Name_kw (ld_glob I hg hm ?_ hdb)
  exact PySem.W.callWith_K0 I.kIn hk (run_fnS (us := []) (vs := []) F hr hb (hx σ) I .nil h)
theorem ev_call0 {x : Str} {p : Pos} {ps : List Str} {d : DSp} {j : Nat} (G : Df Y.X.prog Y.X.w Y.X.K Y.X.mg Y.X.base Y.T j x ps d) (ok : YOk Y) (hj : j ≤ Y.k) (hg : Gl Y.X x)
    (h : ps.length = 0 ∧ ∃ gs1 gs2, s.gs.Perm (gs1 ++ gs2) ∧ d [] gs1 (fun A gs' => Q A ⟨s.ρ, gs' ++ gs2⟩) (fun e gs' => Y.ex e ⟨s.ρ, gs' ++ gs2⟩))
    (hdb : (x == ("__debug__" : Str)) = false := by decide) : Ev Y s (.Call (.Name x p) [] [] pos) Q := fun F0 σ H F e0 S => by
  obtain ⟨⟨f, fd, F1, hm, hk, hb⟩, mono⟩ := G
  obtain ⟨hl, gs1, gs2, hp, q⟩ := h
  refine .of (pe_call0S (E := L2.WE (wxOf Y)) F1 (ok.room.mono hj) hg hm hk hb (fun σ => passAt ok.tk σ) hdb) ?_
  exact sp_call e0 S .nil hl.symm hp q (mono [] gs1)
structure ErrC (K : Frag) (mg : Str → Option Value) (x : Str) (C : Addr) : Prop where
  g : mg x = some (.ref C)
  xi : PySem.W.excIn K C [.type "ValueError", .type "Exception", .type "BaseException", .type "object"] "ValueError.__new__" = true
  kp : PySem.W.keepIn K (.ref C) = true
  sb : PySem.W.subIn K (.ref C) (.type "BaseException") = some true
  ty : PySem.W.typeIn K (.ref C) = some (.type "type")
theorem w1_raise {x m : Str} {C : Addr} {j : Nat} {p p2 p3 : Pos} (ok : YOk Y) (T : ErrC Y.X.K Y.X.mg x C) (hg : Gl Y.X x) (h : Y.ex ⟨C, none⟩ s) (hdb : (x == ("__debug__" : Str)) = false := by decide) :
    W1 Y s (.Raise (some (.Call (.Name x p) [.Constant (.str m) j p2] [] p3)) none pos) D := fun F0 σ H F e0 S =>
  .of (ps_raise ok.calm ok.tk (pmk_own PySem.F.excBase_ValueError T.xi T.g T.kp (raises_own T.sb T.ty) hg hdb)) ⟨⟨C, none⟩, s, F, S, ⟨rfl, rfl⟩, h⟩
theorem Stg.drop {K : Frag} {T : Tb} {gs : Gs} {H F : Hp} (G : Stg K T gs H F) (n : Nat) : Stg K T (gs.drop n) H F :=
  ⟨G.ext, G.ntb, fun p hp => G.own p (List.mem_of_mem_drop hp), G.nd.sublist ((List.drop_sublist n gs).map _), G.tb⟩
theorem Step.sub {H0 F0 H F : Hp} {S0 S S' : List Addr} (t : Step H0 F0 S0 H F S) (h : ∀ a ∈ S', a ∈ S) : Step H0 F0 S0 H F S' :=
  ⟨t.ff, t.fr, fun a q => t.nw a (q.imp id (h a))⟩
theorem ads_drop {gs : Gs} (n : Nat) : ∀ a ∈ ads (gs.drop n), a ∈ ads gs := fun a h => by
  obtain ⟨p, hp, e⟩ := List.mem_map.mp h
  exact List.mem_map.mpr ⟨p, List.mem_of_mem_drop hp, e⟩
abbrev bodyY (P : Program) (w : World) (K : Frag) (mg : Str → Option Value) (base : Heap) (T : Tb) (k : Nat) (N : List Str) (qual : Str) (scope : Scope) (f : Addr) (cdv : Value) (A : Around) (outer : List Env) (s : Shared) (H F : Hp) (gs : Gs) (E : XK) (ex : Exc → DSt → Prop) : DX :=
  ⟨cxOf (L2.CX P w) P w K mg base N qual scope f cdv A outer s H E, T, k, H, F, ads gs, ex⟩
theorem reps_start {K : Frag} {F : Hp} {vs : List V} {As : List Pv} (h : Rvs K F vs As) (n : Nat) : RepS K F (vs.map some ++ List.replicate n none) (As.map some ++ List.replicate n none) := by
  induction h with
  | nil =>
    induction n with
    | zero => exact .nil
    | succ n ih => exact .un ih
  | cons r _ ih => exact .ha r ih
end
end Sp
set_option maxHeartbeats 4000000
namespace Sp
open PySem L2
structure BCx where
  s : Shared
  H : Hp
  C : Addr
  cl : List (Str × Addr)
  fp : List Addr
abbrev blkX (X : Cx) (scope : Scope) (z : BCx) : Cx := X.blk z.s z.H scope (compEnvC scope z.cl z.C X.env) z.fp
abbrev blkY (Y : DX) (scope : Scope) (z : BCx) : DX := ⟨blkX Y.X scope z, Y.T, Y.k, Y.H0, Y.F0, Y.S0, fun _ _ => False⟩
theorem Sta.blk {Y : DX} {scope : Scope} {z : BCx} {s : DSt} {σ : St} {H F : Hp} (S : Sta Y s σ H F) : Sta (blkY Y scope z) s σ H F := ⟨S.ext, S.ntb, S.rep, S.own, S.nd, S.tb, S.st⟩
theorem Sta.unblk {Y : DX} {scope : Scope} {z : BCx} {s : DSt} {σ : St} {H F : Hp} (S : Sta (blkY Y scope z) s σ H F) : Sta Y s σ H F := ⟨S.ext, S.ntb, S.rep, S.own, S.nd, S.tb, S.st⟩
theorem YOk.blk {Y : DX} {scope : Scope} {z : BCx} (ok : YOk Y) : YOk (blkY Y scope z) :=
  ⟨ok.calm, ok.nd, ok.room, PassesOwn.never, fun _ _ ⟨_, _, _, _, _, _, _, _, _, _, _, _, _, _, _, _, _, _, _, _, _, q⟩ => q.elim⟩
def wipeR (ρ : Rho) : List Nat → Rho
  | [] => ρ
  | v :: vs => (wipeR ρ vs).set v none
theorem RepS.wipe {K : Frag} {F : Hp} {σ : St} {ρ : Rho} (h : RepS K F σ ρ) : ∀ vs : List Nat, RepS K F (wipe σ vs) (wipeR ρ vs)
  | [] => h
  | v :: vs => (RepS.wipe h vs).forget v
theorem Sta.wipe {Y : DX} {s : DSt} {σ : St} {H F : Hp} (S : Sta Y s σ H F) (vs : List Nat) : Sta Y ⟨wipeR s.ρ vs, s.gs⟩ (L2.wipe σ vs) H F := ⟨S.ext, S.ntb, S.rep.wipe vs, S.own, S.nd, S.tb, S.st⟩
theorem Sta.names {Y : DX} {s s' : DSt} {σ σ' : St} {H F F0 H' : Hp} (S : Sta Y s σ H F0) (S' : Sta Y s' σ' H' F) (e : Ext F0 F) : Sta Y ⟨s.ρ, s'.gs⟩ σ H' F := ⟨S'.ext, S'.ntb, S.rep.mono e, S'.own, S'.nd, S'.tb, S'.st⟩
theorem wipe_at {σ : St} {j : Nat} : ∀ {vs : List Nat}, (L2.wipe σ vs)[j]? = if j ∈ vs ∧ j < σ.length then some none else σ[j]?
  | [] => by simp [L2.wipe]
  | v :: vs => by
    unfold L2.wipe
    by_cases h : v = j
    · subst h
      by_cases hl : v < σ.length
      · rw [List.getElem?_set_self (by rw [wipe_length]; exact hl), if_pos ⟨List.mem_cons_self, hl⟩]
      · rw [if_neg (fun q => hl q.2), List.getElem?_eq_none (by rw [List.length_set, wipe_length]; omega), List.getElem?_eq_none (by omega)]
    · rw [List.getElem?_set_ne h, wipe_at]
      have : (j ∈ v :: vs) ↔ j ∈ vs := by
        rw [List.mem_cons]
        exact ⟨fun q => q.resolve_left fun e => h e.symm, .inr⟩
      simp only [this]
theorem wipe_only {σ σ2 : St} {ws vs : List Nat} (o : Only ws (L2.wipe σ vs) σ2) (hw : ∀ j ∈ ws, j ∈ vs) : L2.wipe σ2 vs = L2.wipe σ vs := by
  have hl : σ2.length = σ.length := by rw [o.1, wipe_length]
  apply List.ext_getElem?
  intro j
  rw [wipe_at, wipe_at, hl]
  by_cases h : j ∈ vs ∧ j < σ.length
  · rw [if_pos h, if_pos h]
  · rw [if_neg h, if_neg h]
    by_cases hj : j ∈ vs
    · have : ¬ j < σ.length := fun q => h ⟨hj, q⟩
      rw [List.getElem?_eq_none (by omega), List.getElem?_eq_none (by omega)]
    · rw [o.2 j (fun q => hj (hw j q)), wipe_at, if_neg h]
structure WTs (X : Cx) (ifs : List Expr) (σ : St) (H : Hp) (Q : Bool → Hp → Prop) : Prop where
  run : ∀ (pins : List (Addr × Obj)) (s : Shared), Inv X pins σ H s →
  wpAny (model X.prog X.w) X.A (forIn ifs true fun c r => if r = true then do let ok ← isTrue c X.env (eval c X.env); pure (ForInStep.yield ok) else pure (ForInStep.yield r)) (TP X pins σ Q) X.xe s
theorem WTs.of {X : Cx} {ifs : List Expr} {t : TT} {σ : St} {H : Hp} {Q : Bool → Hp → Prop} (p : PTs X ifs t) (h : t σ H Q) : WTs X ifs σ H Q := ⟨fun pins s I => p.run pins s σ H Q I h⟩
theorem WTs.mono {X : Cx} {ifs : List Expr} {σ : St} {H : Hp} {Q Q' : Bool → Hp → Prop} (h : WTs X ifs σ H Q) (k : ∀ b H', Q b H' → Q' b H') : WTs X ifs σ H Q' :=
  ⟨fun pins s I => thn (h.run pins s I) fun b _ ⟨H', J, q⟩ => ⟨H', J, k b H' q⟩⟩
def Ets (Y : DX) (s : DSt) (ifs : List Expr) (Q : Bool → DSt → Prop) : Prop := ∀ F0 σ H F, Ext F0 F → Sta Y s σ H F → WTs Y.X ifs σ H (Pt Y σ F0 Q)
theorem ets_nil {Y : DX} {s : DSt} {Q : Bool → DSt → Prop} (h : Q true s) : Ets Y s [] Q := fun F0 σ H F e0 S => .of pts_nil ⟨s, F, e0, S, h⟩
theorem ets_one {Y : DX} {s : DSt} {c : Expr} {Q : Bool → DSt → Prop} (h : Et Y s c Q) : Ets Y s [c] Q := fun F0 σ H F e0 S => .of (pts_one pt_wt) (h F0 σ H F e0 S)
section
variable {Y : DX} {s : DSt} {elt tg iter : Expr} {ifs : List Expr} {scope : Scope} {own : List (Str × Nat)} {pos : Pos} {Q : Pv → DSt → Prop}
variable {α β : Type} [Enc α] [Enc β]
structure LcTurns (Y : DX) (s : DSt) (scope : Scope) (vs : List Nat) (tg elt : Expr) (ifs : List Expr) (g : TG) (ws : List Nat) (f : β → Rho → Rho) (items : List β) (Iv : Nat → List α → Gs → Prop) : Prop where
  tg : ∀ z, TgOk (blkY Y scope z) tg g ws f
  sub : ∀ j ∈ ws, j ∈ vs
  small : ∀ i ys gs, Iv i ys gs → i < items.length → ys.length < sizeLine
  step : ∀ z i x ys gs D, items[i]? = some x → Iv i ys gs → Ets (blkY Y scope z) ⟨f x (wipeR s.ρ vs), (D, lstc ys) :: gs⟩ ifs fun b s2 =>
    if b = true then ∀ z', Ev (blkY Y scope z') s2 elt fun A s3 => ∃ y gs3, A = pu y ∧ s3.gs = (D, lstc ys) :: gs3 ∧ Iv (i + 1) (ys ++ [y]) gs3 else ∃ gs2, s2.gs = (D, lstc ys) :: gs2 ∧ Iv (i + 1) ys gs2
theorem tlc_ok {g : TG} {ws : List Nat} {f : β → Rho → Rho} {items : List β} {Iv : Nat → List α → Gs → Prop} {wi : TI} {F0 : Hp} {σ : St} {H : Hp} {Qf : VK}
    (hw : ∀ (R : It → Hp → Prop), (∀ J H' F', Ext F0 F' → Sta Y s σ H' F' → ItOk Y.X.K J F' items → R J H') → wi σ H R) (L : LcTurns Y s scope (own.map (·.2)) tg elt ifs g ws f items Iv) (h0 : Iv 0 [] s.gs)
    (hQ : ∀ D H' F' ys gs, Ext F0 F' → Sta Y ⟨s.ρ, (D, lstc ys) :: gs⟩ σ H' F' → Iv items.length ys gs → Qf (.ref D) H') :
    tLc wi g (fun σ H Q => ∀ z, WTs (blkX Y.X scope z) ifs σ H Q) (fun σ H Q => ∀ z, WE (blkX Y.X scope z) elt σ H Q) (own.map (·.2)) σ H Qf := by
  refine hw _ fun J H1 F1 e1 S1 K1 => ?_
  intro D hD
  have S1' := S1.newO (o := .lst []) (c := lstc ([] : List α)) hD rfl ⟨[], rfl, .nil⟩
  refine ⟨fun i m H => m = items.length - i ∧ i ≤ items.length ∧ ∃ ys gs F2, Ext F1 F2 ∧ Sta Y ⟨s.ρ, (D, lstc ys) :: gs⟩ σ H F2 ∧ Iv i ys gs, ⟨items.length, rfl, Nat.zero_le _, [], s.gs, F1, .refl _, S1', h0⟩, ?_⟩
  rintro i m H2 ⟨rfl, hi, ys, gs, F2, e2, S2, iv⟩
  by_cases hlt : i < items.length
  · have hx : items[i]? = some items[i] := List.getElem?_eq_getElem hlt
    refine .inr ⟨((K1 i H2 F2 e2 S2.ext).1 _ hx).1, fun H' => ∃ ys' gs' F3, Ext F1 F3 ∧ Sta Y ⟨s.ρ, (D, lstc ys') :: gs'⟩ σ H' F3 ∧ Iv (i + 1) ys' gs', fun H' ⟨ys', gs', F3, e3, S3, iv3⟩ => ⟨items.length - (i + 1), by omega, rfl, hlt, ys', gs', F3, e3, S3, iv3⟩, fun v H3 y => ?_⟩
    obtain ⟨F3, e3, S3, r3⟩ := K1.yld e2 S2 hx y
    have e13 := e2.trans e3
    let z0 : BCx := ⟨Y.X.s_0, H, 0, [], []⟩
    refine (L.tg z0).2 (L2.wipe σ (own.map (·.2))) H3 F3 v _ ⟨wipeR s.ρ (own.map (·.2)), (D, lstc ys) :: gs⟩ _ (S3.wipe _).blk r3 fun σ4 S4 o4 => ?_
    refine ⟨wipe_only o4 L.sub, ?_⟩
    have S4' := S4.unblk
    intro z
    have st := L.step z i _ ys gs D hx iv F3 σ4 H3 F3 (.refl _) S4'.blk
    refine st.mono fun b H4 ⟨s5, F5, e5, S5, q⟩ => ?_
    cases b with
    | false =>
      obtain ⟨gs2, eg, iv5⟩ := q
      refine ⟨ys, gs2, F5, e13.trans e5, ?_, iv5⟩
      have := S3.names S5.unblk e5
      rw [eg] at this
      exact this
    | true =>
      intro z'
      refine (q z' F5 σ4 H4 F5 (.refl _) S5.unblk.blk).mono fun w H6 ⟨A, s6, F6, e6, r6, S6, y, gs3, ea, eg, iv6⟩ => ?_
      subst ea
      have S7 := S3.names S6.unblk (e5.trans e6)
      rw [eg] at S7
      obtain ⟨hF, o, ho, hot, vs, ev, rv⟩ := S7.cell (i := 0) (p := D) (c := lstc ys) rfl
      subst ev
      refine ⟨vs, ho, by rw [rv.length]; exact L.small i ys gs iv hlt, ys ++ [y], gs3, F6, (e13.trans e5).trans e6, ?_, iv6⟩
      exact S7.write (i := 0) (c' := lstc (ys ++ [y])) (o' := .lst (vs ++ [w])) rfl ho (fun φ => by intro z; cases z) rfl ⟨_, rfl, rv.snoc r6⟩
  · have e : i = items.length := by omega
    subst e
    exact .inl ⟨(K1 _ H2 F2 e2 S2.ext).2 (Nat.le_refl _), hQ D H2 F2 ys gs (e1.trans e2) S2 iv⟩
theorem ev_lc {g : TG} {ws : List Nat} {f : β → Rho → Rho} {items : List β} (ok : YOk Y) (hi : EvIt Y s tg iter items) (bk : BlkOk Y.X.N Y.X.env.scope scope own) (Iv : Nat → List α → Gs → Prop) (L : LcTurns Y s scope (own.map (·.2)) tg elt ifs g ws f items Iv) (h0 : Iv 0 [] s.gs)
    (hQ : ∀ ys gs, Iv items.length ys gs → Q (pu ys) ⟨s.ρ, gs⟩) (hs : ∀ x, foldedSetIterable iter Y.X.env x = pure x := by intro _; rfl) : Ev Y s (.ListComp elt [⟨tg, iter, ifs, 0⟩] scope pos) Q := fun F0 σ H F e0 S => by
  obtain ⟨wi, hp, hw⟩ := hi
  have P := pe_lc (pos := pos) (tt := fun σ H Q => ∀ z, WTs (blkX Y.X scope z) ifs σ H Q) (te := fun σ H Q => ∀ z, WE (blkX Y.X scope z) elt σ H Q) ok.calm ok.nd hp bk (fun s H C cl fp => (L.tg ⟨s, H, C, cl, fp⟩).1) (fun s H C cl fp => ⟨fun pins s' σ H' Q I h => (h ⟨s, H, C, cl, fp⟩).run pins s' I⟩) (fun s H C cl fp => ⟨fun pins s' σ H' Q I h => (h ⟨s, H, C, cl, fp⟩).run pins s' I⟩) hs
  refine .of P (tlc_ok (fun R k => hw F0 σ H F R e0 S k) L h0 fun D H' F' ys gs e1 S1 iv => ?_)
  obtain ⟨hF, o, ho, hot, vs, ev, rv⟩ := S1.cell (i := 0) (p := D) (c := lstc ys) rfl
  subst ev
  have S2 := S1.freeze (i := 0) (p := D) (c := lstc ys) rfl ho
  exact ⟨pu ys, ⟨s.ρ, gs⟩, upd F' D (.lst vs), e1.trans (Ext.grow hF), ⟨D, vs, rfl, .of upd_same, rv.mono (Ext.grow hF)⟩, S2, hQ ys gs iv⟩
theorem lc_quiet {vs : List Nat} {g : TG} {ws : List Nat} {f : β → Rho → Rho} {items : List β} (c : β → Bool) (h : β → α) (tg0 : ∀ z, TgOk (blkY Y scope z) tg g ws f) (sub : ∀ j ∈ ws, j ∈ vs) (small : items.length ≤ sizeLine)
    (ht : ∀ z x D ys, x ∈ items → Ets (blkY Y scope z) ⟨f x (wipeR s.ρ vs), (D, lstc (α := α) ys) :: s.gs⟩ ifs fun b s2 => b = c x ∧ s2 = ⟨f x (wipeR s.ρ vs), (D, lstc ys) :: s.gs⟩)
    (he : ∀ z x D ys, x ∈ items → c x = true → EvP (blkY Y scope z) ⟨f x (wipeR s.ρ vs), (D, lstc (α := α) ys) :: s.gs⟩ elt (pu (h x))) :
    LcTurns Y s scope vs tg elt ifs g ws f items (fun i ys gs => ys = ((items.take i).filter c).map h ∧ gs = s.gs) where
  tg := tg0
  sub := sub
  small := fun i ys gs ⟨e, _⟩ hi => by
    subst e
    rw [List.length_map]
    have h1 := List.length_filter_le c (items.take i)
    rw [List.length_take] at h1
    omega
  step := fun z i x ys gs D hx ⟨e1, e2⟩ => by
    subst e2
    have hm := List.mem_of_getElem? hx
    have et : (items.take (i + 1)) = items.take i ++ [x] := by rw [List.take_add_one, hx, Option.toList_some]
    intro F0 σ H F e0 S
    refine (ht z x D ys hm F0 σ H F e0 S).mono fun b H' ⟨s2, F2, e3, S2, q1, q2⟩ => ⟨s2, F2, e3, S2, ?_⟩
    subst q1 q2
    cases hc : c x with
    | false => exact ⟨s.gs, rfl, by rw [e1, et, List.filter_append, List.filter_cons_of_neg (by simp [hc]), List.filter_nil, List.append_nil], rfl⟩
    | true => exact fun z' => .of (he z' x D ys hm hc) ⟨h x, s.gs, rfl, rfl, by rw [e1, et, List.filter_append, List.filter_cons_of_pos hc, List.filter_nil, List.map_append]; rfl, rfl⟩
end
end Sp
set_option maxHeartbeats 4000000
namespace Sp
open PySem L2
open PySem.W (Datum DatumOrd SomeDatum)
section
variable {Y : DX} {s : DSt} {e a b c d : Expr} {es : List Expr} {pos : Pos} {Q : Pv → DSt → Prop}
def DA (Y : DX) (s : DSt) {α : Type} [Enc α] (A : Pv) (x : α) : Prop := ∀ σ H F v, Sta Y s σ H F → A.rep Y.X.K F v → Enc.rep Y.X.K H v x
theorem DA.pu {α : Type} [Enc α] {x : α} : DA Y s (pu x) x := fun σ H F v S r => Enc.mono (α := α) r S.ext
theorem DA.own {α : Type} [Enc α] {xs : List α} {p : Addr} (i : Nat) (h : s.gs[i]? = some (p, lstc xs)) : DA Y s (raw (.ref p)) xs := fun σ H F v S r => by
  obtain ⟨_, o, ho, _, vs, eo, rv⟩ := S.cell h
  subst eo
  exact ⟨p, vs, r, .of ho, rv.mono S.ext⟩
def DD (Y : DX) (s : DSt) {κ ν : Type} [Kk κ] [Enc ν] (A : Pv) (d : List (κ × ν)) : Prop := ∀ σ H F v, Sta Y s σ H F → A.rep Y.X.K F v → ∃ p kvs, v = .ref p ∧ Rd H p (.dK kvs) ∧ KVs Y.X.K H kvs d
theorem DD.pu {κ ν : Type} [Kk κ] [Enc ν] {d : Dct κ ν} : DD Y s (pu d) d.kvs := fun σ H F v S ⟨p, od, kvs, e, hp, r⟩ => ⟨p, kvs, e, .inr ⟨od, S.ext _ _ hp⟩, r.mono S.ext⟩
theorem DD.own {κ ν : Type} [Kk κ] [Enc ν] {d : List (κ × ν)} {p : Addr} (i : Nat) (h : s.gs[i]? = some (p, dctc d)) : DD Y s (raw (.ref p)) d := fun σ H F v S r => by
  obtain ⟨_, o, ho, _, vs, eo, rv⟩ := S.cell h
  subst eo
  exact ⟨p, vs, r, .inl ho, rv.mono S.ext⟩
structure WC (X : Cx) (op : CmpOp) (a b : Expr) (σ : St) (H : Hp) (Q : VK) : Prop where
  run : ∀ (pins : List (Addr × Obj)) (s : Shared), Inv X pins σ H s →
  wpAny (model X.prog X.w) X.A (eval a X.env) (fun v s₁ => wpAny (model X.prog X.w) X.A (eval b X.env) (fun u s₂ => wpAny (model X.prog X.w) X.A (compareOp op v u) (EP X pins σ Q) X.xe s₂) X.xe s₁) X.xe s
theorem pc_wc {X : Cx} {op : CmpOp} : PC X op a b (WC X op a b) := ⟨fun pins s _ _ _ I h => h.run pins s I⟩
theorem WC.of {X : Cx} {op : CmpOp} {t : TE} {σ : St} {H : Hp} {Q : VK} (p : PC X op a b t) (h : t σ H Q) : WC X op a b σ H Q := ⟨fun pins s I => p.run pins s σ H Q I h⟩
theorem pc_opr {X : Cx} {op : CmpOp} {r : R2} {ta tb : TE} (ho : OpR X (compareOp op) r) (ha : PE X a ta) (hb : PE X b tb) : PC X op a b (tOp r ta tb) := by
  refine ⟨fun pins s σ H Q I h => ?_⟩
  exact thn (ha.run pins s σ H _ I h) fun v s1 ⟨x, H1, I1, r1, q1⟩ => thn (hb.run pins s1 σ H1 _ I1 q1) fun u s2 ⟨y, H2, I2, r2, q2⟩ => ho pins s2 σ H2 x y v u Q I2 r1 r2 q2
def Cmp (Y : DX) (s : DSt) (op : CmpOp) (a b : Expr) (Q : Bool → DSt → Prop) : Prop :=
  ∀ F0 σ H F, Ext F0 F → Sta Y s σ H F → WC Y.X op a b σ H fun v H' => ∃ c s' F', v = .bl c ∧ Ext F0 F' ∧ Sta Y s' σ H' F' ∧ Q c s'
abbrev CmpP (Y : DX) (s : DSt) (op : CmpOp) (a b : Expr) (c : Bool) : Prop := Cmp Y s op a b fun c' s' => c' = c ∧ s' = s
theorem cmp_of {op : CmpOp} {r : R2} {Q : Bool → DSt → Prop} (ho : OpR Y.X (compareOp op) r)
    (h : Ev Y s a fun A s1 => Ev Y s1 b fun B s2 => ∃ c : Bool, Q c s2 ∧ ∀ σ H F v u (Q' : VK), Sta Y s2 σ H F → A.rep Y.X.K F v → B.rep Y.X.K F u → Q' (.bl c) H → r v u H Q') : Cmp Y s op a b Q := fun F0 σ H F e0 S => by
  refine .of (pc_opr ho pe_we pe_we) ?_
  refine (h F σ H F (.refl _) S).mono fun v H1 ⟨A, s1, F1, e1, r1, S1, q1⟩ => ?_
  refine (q1 F1 σ H1 F1 (.refl _) S1).mono fun u H2 ⟨B, s2, F2, e2, r2, S2, c, qc, q2⟩ => ?_
  exact q2 σ H2 F2 v u _ S2 (A.mono r1 e2) r2 ⟨c, s2, F2, rfl, (e0.trans e1).trans e2, S2, qc⟩
theorem cmpp_of {op : CmpOp} {r : R2} {A B : Pv} {c : Bool} (ho : OpR Y.X (compareOp op) r) (ha : EvP Y s a A) (hb : EvP Y s b B)
    (h : ∀ σ H F v u (Q' : VK), Sta Y s σ H F → A.rep Y.X.K F v → B.rep Y.X.K F u → Q' (.bl c) H → r v u H Q') : CmpP Y s op a b c :=
  cmp_of ho (.of ha (.of hb ⟨c, ⟨rfl, rfl⟩, h⟩))
theorem ev_cmp {op : CmpOp} (h : Cmp Y s op a b fun c s' => Q (pu c) s') (h1 : behindInMarks op b = false := by first | exact nobehind _ (by decide) (by decide) | rfl) : Ev Y s (.Compare a [op] [b] pos) Q := fun F0 σ H F e0 S => by
  refine .of (pe_cmp pc_wc h1) ?_
  refine WC.mk fun pins s1 I => ?_
  refine thn ((h F0 σ H F e0 S).run pins s1 I) fun v s2 k => thn k fun u s3 k2 => thn k2 fun w s4 ⟨x, H', J, r, c, s', F', ex, e1, S', q⟩ => ?_
  subst ex
  exact ⟨_, H', J, r, pu c, s', F', e1, rfl, S', q⟩
theorem et_cmp {op : CmpOp} {Q : Bool → DSt → Prop} (h : Cmp Y s op a b Q) (h1 : behindInMarks op b = false := by first | exact nobehind _ (by decide) (by decide) | rfl) : Et Y s (.Compare a [op] [b] pos) Q := fun F0 σ H F e0 S => by
  refine .of (pt_cmp pc_wc h1) ?_
  refine WC.mk fun pins s1 I => ?_
  refine thn ((h F0 σ H F e0 S).run pins s1 I) fun v s2 k => thn k fun u s3 k2 => thn k2 fun w s4 ⟨x, H', J, r, c, s', F', ex, e1, S', q⟩ => ?_
  exact ⟨x, H', J, r, c, ex, s', F', e1, S', q⟩
theorem evp_cmp {op : CmpOp} {x : Bool} (h : CmpP Y s op a b x) (h1 : behindInMarks op b = false := by first | exact nobehind _ (by decide) (by decide) | rfl) : EvP Y s (.Compare a [op] [b] pos) (pu x) :=
  .of (ev_cmp (fun F0 σ H F e0 S => by
    refine WC.mk fun pins s1 I => ?_
    exact thn ((h F0 σ H F e0 S).run pins s1 I) fun v s2 k => thn k fun u s3 k2 => thn k2 fun w s4 ⟨x, H', J, r, c, s', F', ex, e1, S', q1, q2⟩ => by
      subst q1 q2
      exact ⟨x, H', J, r, _, _, F', ex, e1, S', rfl, rfl⟩) h1)
theorem etp_cmp {op : CmpOp} {x : Bool} (h : CmpP Y s op a b x) (h1 : behindInMarks op b = false := by first | exact nobehind _ (by decide) (by decide) | rfl) : EtP Y s (.Compare a [op] [b] pos) x := .of (et_cmp h h1)
theorem Cmp.mono {op : CmpOp} {Q Q' : Bool → DSt → Prop} (h : Cmp Y s op a b Q) (k : ∀ c s', Q c s' → Q' c s') : Cmp Y s op a b Q' := fun F0 σ H F e0 S => ⟨fun pins s1 I =>
  thn ((h F0 σ H F e0 S).run pins s1 I) fun v s2 z => thn z fun u s3 z2 => thn z2 fun w s4 ⟨x, H', J, r, c, s', F', ex, e1, S', q⟩ => ⟨x, H', J, r, c, s', F', ex, e1, S', k _ _ q⟩⟩
section
variable {α β : Type} [DecidableEq α] [Enc α] {A B : Pv} {x y : α}
section
variable [Datum α] [Dat α]
theorem cmp_eq (ok : YOk Y) (ha : EvP Y s a A) (hA : DA Y s A x) (hb : EvP Y s b B) (hB : DA Y s B y) (hd : Datum.depth α ≤ 60 := by decide) : CmpP Y s .Eq a b (decide (x = y)) :=
  cmpp_of (op_eqT (α := α) ok.room.units hd) ha hb fun σ H F v u Q S r1 r2 q => ⟨x, y, hA σ H F v S r1, hB σ H F u S r2, q⟩
end
section
variable [DatumOrd α] [Dat α]
end
end
section
variable {i j : Int}
theorem cmp_gt (ha : EvP Y s a (pu i)) (hb : EvP Y s b (pu j)) : CmpP Y s .Gt a b (decide (j < i)) := cmpp_of op_gt ha hb fun σ H F v u Q S r1 r2 q => ⟨i, j, r1, r2, q⟩
theorem cmp_ge (ha : EvP Y s a (pu i)) (hb : EvP Y s b (pu j)) : CmpP Y s .GtE a b (decide (j ≤ i)) := cmpp_of op_ge ha hb fun σ H F v u Q S r1 r2 q => ⟨i, j, r1, r2, q⟩
end
def tin (x y : List Nat) : Bool := !(Builtin.Str.occurrences (toStr y) (toStr x) 0 y.length 1).isEmpty
class NoN (α : Type) [Enc α] : Prop where
  no : ∀ {K F} {v : V} {x : α}, Enc.rep K F v x → v ≠ .non
instance : NoN Int := ⟨fun h e => by rw [e] at h; cases h⟩
instance : NoN Bool := ⟨fun h e => by rw [e] at h; cases h⟩
instance : NoN (List Nat) := ⟨fun h e => by rw [e] at h; cases h⟩
section
variable {α β γ δ : Type} [Enc α] [Enc β] [Enc γ] [Enc δ]
instance : NoN (List α) := ⟨fun ⟨_, _, h, _⟩ e => by rw [e] at h; cases h⟩
instance : NoN (Tup α) := ⟨fun ⟨_, _, h, _⟩ e => by rw [e] at h; cases h⟩
instance : NoN (α × β) := ⟨fun ⟨_, _, _, h, _⟩ e => by rw [e] at h; cases h⟩
instance : NoN (T3 α β γ) := ⟨fun ⟨_, _, _, _, h, _⟩ e => by rw [e] at h; cases h⟩
instance : NoN (T4 α β γ δ) := ⟨fun ⟨_, _, _, _, _, h, _⟩ e => by rw [e] at h; cases h⟩
theorem optNone [NoN α] {K F} {v : V} {x : Option α} (h : Enc.rep K F v x) : decide (v = .non) = x.isNone := by
  cases x with
  | none => cases h; rfl
  | some x => exact decide_eq_false (NoN.no (α := α) h)
end
structure WTW (X : Cx) (e : Expr) (σ : St) (H : Hp) (Q : Bool → Hp → Prop) : Prop where
  run : ∀ (wh : Sem Value) (pins : List (Addr × Obj)) (s : Shared), Inv X pins σ H s → wpAny (model X.prog X.w) X.A (isTrue e X.env wh) (TP X pins σ Q) X.xe s
theorem pw_wtw {X : Cx} : PW X e (WTW X e) := ⟨fun wh pins s _ _ _ I h => h.run wh pins s I⟩
theorem WTW.of {X : Cx} {σ : St} {H : Hp} {t : TT} {Q : Bool → Hp → Prop} (p : PW X e t) (h : t σ H Q) : WTW X e σ H Q := ⟨fun wh pins s I => p.run wh pins s σ H Q I h⟩
def Ew (Y : DX) (s : DSt) (e : Expr) (Q : Bool → DSt → Prop) : Prop := ∀ F0 σ H F, Ext F0 F → Sta Y s σ H F → WTW Y.X e σ H (Pt Y σ F0 Q)
theorem et_w {Q : Bool → DSt → Prop} (h : Ew Y s e Q) : Et Y s e Q := fun F0 σ H F e0 S => .of pw_wtw.pt (h F0 σ H F e0 S)
theorem ew_and1 {Q : Bool → DSt → Prop} (h : Et Y s a Q) : Ew Y s (.BoolOp .And [a] pos) Q := fun F0 σ H F e0 S => .of (pw_and1 pt_wt) (h F0 σ H F e0 S)
theorem ew_or1 {Q : Bool → DSt → Prop} (h : Et Y s a Q) : Ew Y s (.BoolOp .Or [a] pos) Q := fun F0 σ H F e0 S => .of (pw_or1 pt_wt) (h F0 σ H F e0 S)
theorem WTW.mono {X : Cx} {σ : St} {H : Hp} {Q Q' : Bool → Hp → Prop} (h : WTW X e σ H Q) (k : ∀ b H', Q b H' → Q' b H') : WTW X e σ H Q' :=
  ⟨fun wh pins s I => thn (h.run wh pins s I) fun b _ ⟨H', J, q⟩ => ⟨H', J, k b H' q⟩⟩
theorem Pt.ext {σ : St} {F0 F1 : Hp} {Q : Bool → DSt → Prop} {c : Bool} {H : Hp} (h : Pt Y σ F1 Q c H) (e : Ext F0 F1) : Pt Y σ F0 Q c H := by
  obtain ⟨s', F', e1, S', q⟩ := h
  exact ⟨s', F', e.trans e1, S', q⟩
theorem ew_and {Q : Bool → DSt → Prop} {r : List Expr} (h : Et Y s a fun x s1 => if x = true then Ew Y s1 (.BoolOp .And (b :: r) pos) Q else Q false s1) : Ew Y s (.BoolOp .And (a :: b :: r) pos) Q := fun F0 σ H F e0 S => by
  refine .of (pw_and pt_wt pw_wtw) ((h F0 σ H F e0 S).mono fun x H1 ⟨s1, F1, e1, S1, q⟩ => ?_)
  cases x with
  | true => exact (q F1 σ H1 F1 (.refl _) S1).mono fun c H2 z => z.ext e1
  | false => exact ⟨s1, F1, e1, S1, q⟩
theorem ew_or {Q : Bool → DSt → Prop} {r : List Expr} (h : Et Y s a fun x s1 => if x = true then Q true s1 else Ew Y s1 (.BoolOp .Or (b :: r) pos) Q) : Ew Y s (.BoolOp .Or (a :: b :: r) pos) Q := fun F0 σ H F e0 S => by
  refine .of (pw_or pt_wt pw_wtw) ((h F0 σ H F e0 S).mono fun x H1 ⟨s1, F1, e1, S1, q⟩ => ?_)
  cases x with
  | false => exact (q F1 σ H1 F1 (.refl _) S1).mono fun c H2 z => z.ext e1
  | true => exact ⟨s1, F1, e1, S1, q⟩
theorem et_not {Q : Bool → DSt → Prop} (h : Et Y s a fun x s1 => Q (!x) s1) : Et Y s (.UnaryOp .Not a pos) Q := fun F0 σ H F e0 S =>
  .of (pt_not pt_wt) ((h F0 σ H F e0 S).mono fun x H1 ⟨s1, F1, e1, S1, q⟩ => ⟨s1, F1, e1, S1, q⟩)
abbrev EwP (Y : DX) (s : DSt) (e : Expr) (x : Bool) : Prop := Ew Y s e fun y s' => y = x ∧ s' = s
theorem etp_w {x : Bool} (h : EwP Y s e x) : EtP Y s e x := .of (et_w h)
theorem ewp_and1 {x : Bool} (h : EtP Y s a x) : EwP Y s (.BoolOp .And [a] pos) x := ew_and1 (.of h ⟨rfl, rfl⟩)
theorem ewp_or1 {x : Bool} (h : EtP Y s a x) : EwP Y s (.BoolOp .Or [a] pos) x := ew_or1 (.of h ⟨rfl, rfl⟩)
theorem Ew.to {Q Q' : Bool → DSt → Prop} (h : Ew Y s e Q) (k : ∀ x s', Q x s' → Q' x s') : Ew Y s e Q' := fun F0 σ H F e0 S => (h F0 σ H F e0 S).mono fun x H1 ⟨s1, F1, e1, S1, q⟩ => ⟨s1, F1, e1, S1, k _ _ q⟩
theorem ewp_and {x y : Bool} {r : List Expr} (h : EtP Y s a x) (k : x = true → EwP Y s (.BoolOp .And (b :: r) pos) y) : EwP Y s (.BoolOp .And (a :: b :: r) pos) (x && y) := ew_and (.of h (by
  cases x with
  | true => exact (k rfl).to fun z s' q => q
  | false => exact ⟨rfl, rfl⟩))
theorem ewp_or {x y : Bool} {r : List Expr} (h : EtP Y s a x) (k : x = false → EwP Y s (.BoolOp .Or (b :: r) pos) y) : EwP Y s (.BoolOp .Or (a :: b :: r) pos) (x || y) := ew_or (.of h (by
  cases x with
  | false => exact (k rfl).to fun z s' q => q
  | true => exact ⟨rfl, rfl⟩))
theorem Pp.ext {σ : St} {F0 F1 : Hp} {A : Pv} {v : V} {H : Hp} (h : Pp Y s σ F1 A v H) (e : Ext F0 F1) : Pp Y s σ F0 A v H := by
  obtain ⟨F', e1, r, S'⟩ := h
  exact ⟨F', e.trans e1, r, S'⟩
theorem ev_if (h : Et Y s c fun x s1 => if x = true then Ev Y s1 a Q else Ev Y s1 b Q) : Ev Y s (.IfExp c a b pos) Q := fun F0 σ H F e0 S => by
  refine .of (pe_ifExp pt_wt pe_we pe_we) ((h F0 σ H F e0 S).mono fun x H1 ⟨s1, F1, e1, S1, q⟩ => ?_)
  cases x with
  | true => exact q F0 σ H1 F1 e1 S1
  | false => exact q F0 σ H1 F1 e1 S1
theorem EvP.inl {α β : Type} [Enc α] [Enc β] {x : α} (h : EvP Y s e (pu x)) : EvP Y s e (pu (Sum.inl x : α ⊕ β)) := h
theorem EvP.inr {α β : Type} [Enc α] [Enc β] {x : β} (h : EvP Y s e (pu x)) : EvP Y s e (pu (Sum.inr x : α ⊕ β)) := h
theorem EvP.some {α : Type} [Enc α] {x : α} (h : EvP Y s e (pu x)) : EvP Y s e (pu (Option.some x)) := h
theorem evp_none {α : Type} [Enc α] {j : Nat} : EvP Y s (.Constant .none j pos) (pu (Option.none : Option α)) := (evp_non : EvP Y s (.Constant .none j pos) (pu ()))
end
end Sp
set_option maxHeartbeats 4000000
namespace Sp
open PySem L2
open PySem.W (Datum DatumOrd SomeDatum)
section
variable {Y : DX} {s : DSt} {e a b c d o : Expr} {es : List Expr} {pos p : Pos} {Q : Pv → DSt → Prop}
theorem evp_T1 {A B : Pv} {x : Str} {T : String} {r : List V → Hp → VK → Prop} (hc : CallR Y.X (.type T) r) (hg : Gl Y.X x) (hm : Y.X.mg x = none) (hv : bootBuiltins x = some (.type T)) (ha : EvP Y s a A)
    (h : ∀ F0 σ H F v, Ext F0 F → Sta Y s σ H F → A.rep Y.X.K F v → r [v] H (Pp Y s σ F0 B)) (hn : x ≠ "__name__" := by decide) (hdb : (x == ("__debug__" : Str)) = false := by decide)
    (he : starEach [a] Y.X.env = (false, eval a Y.X.env) :: starEach [] Y.X.env := by rfl) : EvP Y s (.Call (.Name x p) [a] [] pos) B := fun F0 σ H F e0 S => by
  refine .of (pe_callTy hc hg hm hv (pa_cons pe_we pa_nil he) hn hdb he (by rfl)) ?_
  refine (ha F0 σ H F e0 S).mono fun v H1 ⟨F1, e1, r1, S1⟩ => ?_
  exact h F0 σ H1 F1 v e1 S1 r1
theorem pp_list {α : Type} [Enc α] {σ : St} {F0 H F : Hp} {vs : List V} {xs : List α} (e0 : Ext F0 F) (S : Sta Y s σ H F) (r : Vs Y.X.K F vs xs) (q : Addr) (hq : H q = none) : Pp Y s σ F0 (pu xs) (.ref q) (upd H q (.lst vs)) :=
  ⟨upd F q (.lst vs), e0.trans (Ext.grow (S.free hq)), ⟨q, vs, rfl, .of upd_same, r.mono (Ext.grow (S.free hq))⟩, S.newF hq rfl⟩
section
variable {α : Type} [Enc α] {A B : Pv} {xs ys : List α}
theorem evp_abs {i : Int} (T : Bis Y.X.mg) (hg : Gl Y.X "abs") (ha : EvP Y s a (pu i)) (he : starEach [a] Y.X.env = (false, eval a Y.X.env) :: starEach [] Y.X.env := by rfl) : EvP Y s (.Call (.Name "abs" p) [a] [] pos) (pu (if i < 0 then -i else i)) :=
  evp_B1 call_abs hg (T.no _ (by decide)) PyProof.Rows.boot_abs ha (fun F0 σ H F v e0 S r => ⟨i, by rw [show v = .int i from r], F, e0, rfl, S⟩) (by decide) (by decide) he
end
def DL (Y : DX) (s : DSt) {α : Type} [Enc α] (A : Pv) (xs : List α) : Prop := ∀ σ H F v, Sta Y s σ H F → A.rep Y.X.K F v → ∃ p vs, v = .ref p ∧ SqL Y.X.K H p vs ∧ Vs Y.X.K F vs xs
theorem DL.pu {α : Type} [Enc α] {xs : List α} : DL Y s (pu xs) xs := fun σ H F v S ⟨p, vs, h1, h2, h3⟩ => ⟨p, vs, h1, sqL_ext h2 S.ext, h3⟩
theorem DL.own {α : Type} [Enc α] {xs : List α} {p : Addr} (i : Nat) (h : s.gs[i]? = some (p, lstc xs)) : DL Y s (raw (.ref p)) xs := fun σ H F v S r => by
  obtain ⟨_, o, ho, _, vs, eo, rv⟩ := S.cell h
  subst eo
  exact ⟨p, vs, r, .of ho, rv⟩
theorem DL.da {α : Type} [Enc α] {A : Pv} {xs : List α} (h : DL Y s A xs) : DA Y s A xs := fun σ H F v S r => by
  obtain ⟨p, vs, h1, h2, h3⟩ := h σ H F v S r
  exact ⟨p, vs, h1, h2, h3.mono S.ext⟩
end
section
variable {X : Cx} {α : Type} [DecidableEq α] [Enc α]
theorem cr_sortedF [DatumOrd α] [Dat α] [Srtb α] (hu : X.A.units + 64 < cLine) (hd : Datum.depth α ≤ 60) : CallR X (.builtin "sorted") (fun vs H Q => ∃ F y p zs, ∃ xs : List α, vs = [y] ∧ y = .ref p ∧ SqL X.K H p zs ∧ Vs X.K F zs xs ∧ Ext F H ∧ ∀ p zs, H p = none → Vs X.K F zs (srt xs) → Q (.ref p) (upd H p (.lst zs))) := by
  intro pins s σ H vs us Q I r ⟨F, y, p, zs, xs, ev, e, hq, hz, ex, q⟩
  subst e ev
  obtain ⟨its, rv, hl, hlen⟩ := I.list hq
  obtain ⟨u, rfl, ru⟩ := vals1 r
  cases ru
  have hls : zs.length = xs.length := Paired.length hz
  have e0 := each_of hz rv
  refine PySem.W.sorted_data (enc := Datum.toD) hl.isList e0 (e0.mono fun u a ⟨z, r1, r2⟩ => enc_holds I (Enc.mono r1 ex) r2) (sort_alike xs) (sort_able xs) (by omega) (fun b _ => by have := Datum.depth_le b; omega) fun out h1 h2 => ?_
  rw [srt_eq] at h2
  obtain ⟨zs', h3, h4⟩ := each_back h2
  obtain ⟨ep, he'⟩ := PyProof.Rows.sortedAll_at s.heap its out.toArray
  have hl4 : zs'.length = out.length := Paired.length h4
  exact ⟨.ref _, upd H (s.heap.objs.size + 1) (.lst zs'), I.laid (t' := s.toks) (fun _ _ => PyProof.Rows.sortedAll_old) (Nat.le_succ _) ⟨by omega, out, ep, h4, he'⟩, rfl, q _ zs' (I.hok.fresh (Nat.le_succ _)) h3⟩
theorem pickF [DatumOrd α] [Dat α] {pins : List (Addr × Obj)} {σ : St} {H F : Hp} {s : Shared} {h' : Heap} {tk : Nat} {zs : List V} {its : List Value} {xs : List α} {i : Nat} {v : Value} {m : α} (I : Inv X pins σ H { s with heap := h', toks := tk }) (hz : Vs X.K F zs xs) (ex : Ext F H) (rv : Vals zs its) (hv : its[i]? = some v) (hm : PySem.W.Holds h' v m) :
    ∃ z, Enc.rep X.K F z m ∧ RelV z v := by
  have hi : i < its.length := (List.getElem?_eq_some_iff.mp hv).1
  have e1 : zs.length = its.length := Paired.length rv
  have e2 : zs.length = xs.length := Paired.length hz
  obtain ⟨z, h1, r1⟩ := prd_get hz (i := i) (y := xs[i]'(by omega)) (List.getElem?_eq_getElem _)
  obtain ⟨u, h2, r2⟩ := rv.get h1
  rw [hv] at h2
  cases h2
  have := holds_one (h := h') (enc_holds I (Enc.mono r1 ex) r2) hm
  rw [this] at r1
  exact ⟨z, r1, r2⟩
theorem cr_minF [DatumOrd α] [Dat α] (hc : X.calm = true) (hu : X.A.units + 64 < cLine) (hd : Datum.depth α ≤ 60) : CallR X (.builtin "min") (fun vs H Q => ∃ F y p zs x, ∃ xs : List α, vs = [y] ∧ y = .ref p ∧ SqL X.K H p zs ∧ Vs X.K F zs (x :: xs) ∧ Ext F H ∧ ∀ z, Enc.rep X.K F z (PySem.W.minOf x xs) → Q z H) := by
  intro pins s σ H vs us Q I r ⟨F, y, p, zs, x, xs, ev, e, hq, hz, ex, q⟩
  subst e ev
  obtain ⟨its, rv, hl, hlen⟩ := I.list hq
  obtain ⟨u, rfl, ru⟩ := vals1 r
  cases ru
  refine PySem.W.min_list_datum (vs := its.toArray) (I.ok.hd hc) hl.isList (vs_holds I (hz.mono ex) rv) (by omega) fun i v h' tk hv hm hk => ?_
  have J := I.kept (t' := tk) hk
  obtain ⟨z, r1, r2⟩ := pickF J hz ex rv (by simpa using hv) hm
  exact ⟨z, H, J, r2, q z r1⟩
end
section
variable {Y : DX} {s : DSt} {e a b c d o : Expr} {es : List Expr} {pos p apos : Pos} {Q : Pv → DSt → Prop}
section
variable {α : Type} [DecidableEq α] [Enc α] {A B : Pv} {x : α} {xs ys : List α}
end
section
variable {α β : Type} [Enc α] [Enc β] {A B : Pv} {xs ys : List α}
theorem op_catF {X : Cx} : OpR X (binaryOp .Add) (fun x y H Q => ∃ p q xs ys, x = .ref p ∧ y = .ref q ∧ SqL X.K H p xs ∧ SqL X.K H q ys ∧ xs.length + ys.length ≤ sizeLine ∧ ∀ p, H p = none → Q (.ref p) (upd H p (.lst (xs ++ ys)))) := by
  intro pins s σ H x y v u Q I rx ry ⟨p, p2, zs, zs2, e, e2, hq, hq2, hs, q⟩
  subst e e2
  obtain ⟨its, rv, hl, hlen⟩ := I.list hq
  obtain ⟨its2, rv2, hl2, hlen2⟩ := I.list hq2
  obtain ⟨⟨cls, dd, data, sl⟩, ho, hc, n, hd⟩ := hl.isList
  obtain ⟨⟨cls2, dd2, data2, sl2⟩, ho2, hc2, n2, hd2⟩ := hl2.isList
  simp only at hc hd hc2 hd2
  subst hc hd hc2 hd2
  cases rx
  cases ry
  have e : its.toArray ++ its2.toArray = (its ++ its2).toArray := by simp
  have h1 : zs.length = its.length := Paired.length rv
  have h2 : zs2.length = its2.length := Paired.length rv2
  refine concat_meets ⟨_, ho, rfl⟩ ⟨_, ho2, rfl⟩ noFill_list_add seq_list_add PySem.F.slot_list_add PySem.F.entry_list_add (PySem.F.args_list_add_2 _ _) (PyProof.Rows.list_addW p p2 its.toArray its2.toArray n n2 dd dd2 sl sl2 (by simp only [List.size_toArray]; omega)) ⟨ho, ho2, ?_⟩
  rw [e]
  exact ⟨.ref _, _, I.lnew (t' := s.toks) (rv.append rv2) (by rw [List.length_append]; omega), rfl, q _ I.fresh⟩
theorem evp_ixA {i : Int} {x : α} (hs : PlainIx b) (ha : EvP Y s a A) (hA : DL Y s A xs) (hb : EvP Y s b (pu i)) (hx : atI xs i = some x) : EvP Y s (.Subscript a b pos) (pu x) :=
  evp2 (pe_ix ix_list pe_we pe_we hs) ha hb fun F0 σ H F v u e0 S rv ru => by
    obtain ⟨p, vs, h1, h2, h3⟩ := hA σ H F v S rv
    obtain ⟨w, hw, rw'⟩ := atI_of h3 hx
    exact ⟨p, vs, i, w, h1, ru, h2, hw, F, e0, rw', S⟩
def cutD {γ : Type} (xs : List γ) (lo hi : Option Int) : List γ := (xs.drop (HT.sIx xs.length 0 lo)).take (HT.sIx xs.length xs.length hi - HT.sIx xs.length 0 lo)
def EvO (Y : DX) (s : DSt) (e : Option Expr) (i : Option Int) : Prop := ∀ F0 σ H F, Ext F0 F → Sta Y s σ H F → ∀ (pins : List (Addr × Obj)) (s1 : Shared), Inv Y.X pins σ H s1 →
  wpAny (model Y.X.prog Y.X.w) Y.X.A (evalPart e Y.X.env) (fun u s' => ∃ o H', Inv Y.X pins σ H' s' ∧ IsPart u o ∧ o = i ∧ ∃ F', Ext F0 F' ∧ Sta Y s σ H' F') Y.X.xe s1
theorem evo_no : EvO Y s none none := fun F0 σ H F e0 S pins s1 I => (po_none).run pins s1 σ H _ I ⟨rfl, F, e0, S⟩
theorem evo_at {i : Int} (h : EvP Y s e (pu i)) : EvO Y s (some e) (some i) := fun F0 σ H F e0 S pins s1 I => (po_some pe_we).run pins s1 σ H _ I ((h F0 σ H F e0 S).mono fun v H' ⟨F', e1, r, S'⟩ => ⟨i, r, rfl, F', e1, S'⟩)
structure WO (X : Cx) (e : Option Expr) (σ : St) (H : Hp) (Q : Option Int → Hp → Prop) : Prop where
  run : ∀ (pins : List (Addr × Obj)) (s1 : Shared), Inv X pins σ H s1 →
  wpAny (model X.prog X.w) X.A (evalPart e X.env) (fun u s' => ∃ o H', Inv X pins σ H' s' ∧ IsPart u o ∧ Q o H') X.xe s1
theorem po_wo {X : Cx} {e : Option Expr} : PO X e (WO X e) := ⟨fun pins s _ _ _ I h => h.run pins s I⟩
theorem evp_sl {r : V → Option Int → Option Int → Hp → VK → Prop} {lo hi : Option Expr} {i j : Option Int} {p2 : Pos} (hr : SlR Y.X r) (ha : EvP Y s a A) (hl : EvO Y s lo i) (hh : EvO Y s hi j)
    (h : ∀ F0 σ H F v, Ext F0 F → Sta Y s σ H F → A.rep Y.X.K F v → r v i j H (Pp Y s σ F0 B)) : EvP Y s (.Subscript a (.Slice lo hi none p2) pos) B := fun F0 σ H F e0 S => by
  refine .of (pe_slice hr pe_we po_wo po_wo) ?_
  refine (ha F σ H F (.refl _) S).mono fun v H1 ⟨F1, e1, r1, S1⟩ => ?_
  refine ⟨fun pins s1 I => ?_⟩
  refine thn (hl F1 σ H1 F1 (.refl _) S1 pins s1 I) fun u s2 ⟨o, H2, I2, p2, eo, F2, e2, S2⟩ => ⟨o, H2, I2, p2, ?_⟩
  subst eo
  refine ⟨fun pins' s1' I' => ?_⟩
  refine thn (hh F2 σ H2 F2 (.refl _) S2 pins' s1' I') fun u' s3 ⟨o', H3, I3, p3, eo', F3, e3, S3⟩ => ⟨o', H3, I3, p3, ?_⟩
  subst eo'
  exact h F0 σ H3 F3 v (((e0.trans e1).trans e2).trans e3) S3 (A.mono r1 (e2.trans e3))
theorem toStr_cut (x : List Nat) (i j : Option Int) : cutS (toStr x) i j = toStr (cutD x i j) := by
  unfold cutS cutD
  rw [toStr_cps, toStr_len]
  rfl
theorem cut_vs {K : Frag} {F : Hp} {vs : List V} {xs : List α} (h : Vs K F vs xs) (i j : Option Int) : Vs K F (cutV vs i j) (cutD xs i j) := by
  unfold cutV cutD
  rw [show vs.length = xs.length from Paired.length h]
  exact prd_take (prd_drop h _) _
theorem evp_slL {lo hi : Option Expr} {i j : Option Int} {p2 : Pos} (ha : EvP Y s a A) (hA : DL Y s A xs) (hl : EvO Y s lo i) (hh : EvO Y s hi j) : EvP Y s (.Subscript a (.Slice lo hi none p2) pos) (pu (cutD xs i j)) :=
  evp_sl sl_list ha hl hh fun F0 σ H F v e0 S r => by
    obtain ⟨q, zs, h1, h2, h3⟩ := hA σ H F v S r
    exact ⟨q, zs, h1, h2, fun l hl => pp_list e0 S (cut_vs h3 i j) l hl⟩
end
theorem tyV_list {K : Frag} {H : Hp} {p : Addr} {xs : List V} (h : SqL K H p xs) : tyV K "list" (.ref p) H := .inl ⟨rfl, xs, h⟩
end
end Sp
set_option maxHeartbeats 4000000
namespace Sp
open PySem L2
open PySem.W (Datum DatumOrd SomeDatum)
section
variable {Y : DX} {s : DSt} {e a b c d o : Expr} {es : List Expr} {pos p apos : Pos} {Q : Pv → DSt → Prop}
structure Mx1 (X : Cx) (o : Expr) (m : Str) (apos : Pos) (e : Expr) (pos : Pos) : Prop where
  base : attributeBase o m X.env (eval o X.env) = eval o X.env
  few : ((backTo pos (starEach [e] X.env)).all (fun x => !x.1) && (backToKw pos (keywordEach [] X.env)).all (fun x => x.1.isSome)
      && decide (([e] : List Expr).length + ([] : List Keyword).length + (if ([] : List Keyword).isEmpty then 0 else 1) < 30)) = true
  line : (apos.endLine == pos.line) = true
  star : starEach [e] X.env = (false, eval e X.env) :: starEach [] X.env
structure Mx0 (X : Cx) (o : Expr) (m : Str) (apos : Pos) (pos : Pos) : Prop where
  base : attributeBase o m X.env (eval o X.env) = eval o X.env
  line : (apos.endLine == pos.line) = true
section
variable {α : Type} [DecidableEq α] [Enc α] [Datum α] [Dat α] {A B : Pv} {x : α} {xs ys : List α}
theorem DL.ty {A : Pv} {xs : List α} (h : DL Y s A xs) : ∀ σ H F v, Sta Y s σ H F → A.rep Y.X.K F v → tyV Y.X.K "list" v H := fun σ H F v S r => by
  obtain ⟨q, zs, h1, h2, h3⟩ := h σ H F v S r
  subst h1
  exact tyV_list h2
theorem DL.rd {A : Pv} {xs : List α} (h : DL Y s A xs) {σ : St} {H F : Hp} {v : V} (S : Sta Y s σ H F) (r : A.rep Y.X.K F v) : LRd Y.X.K H v xs := by
  obtain ⟨q, zs, h1, h2, h3⟩ := h σ H F v S r
  exact ⟨q, zs, h1, h2, h3.mono S.ext⟩
theorem not_codeL {o : HO} {vs : List V} (h : o = .lst vs) : ∀ φ, o ≠ HO.ext φ := fun φ z => by rw [h] at z; cases z
theorem not_codeD {o : HO} {vs : List (Key × V)} (h : o = .dK vs) : ∀ φ, o ≠ HO.ext φ := fun φ z => by rw [h] at z; cases z
end
section
variable {α : Type} [Enc α] {A B : Pv} {x : α} {xs ys : List α}
end
theorem tyV_str {K : Frag} {H : Hp} {x : List Nat} {v : V} (h : (pu x).rep K H v) : tyV K "str" v H := by
  have h' : v = .str (toStr x) := h
  subst h'
  rfl
end
end Sp
set_option maxHeartbeats 4000000
namespace Sp
open PySem L2
open PySem.W (Datum DatumOrd SomeDatum)
class FlatV (α : Type) [Enc α] where
  z : α → V
  rep : ∀ {K : Frag} {F : Hp} (a : α), Enc.rep K F (z a) a
instance : FlatV Int := ⟨V.int, fun _ => rfl⟩
instance : FlatV (List Nat) := ⟨fun x => V.str (toStr x), fun _ => rfl⟩
instance : FlatV Bool := ⟨V.bl, fun _ => rfl⟩
theorem flat_vs {α : Type} [Enc α] [FlatV α] {K : Frag} {F : Hp} : ∀ xs : List α, Vs K F (xs.map FlatV.z) xs
  | [] => .nil
  | a :: r => .cons (FlatV.rep a) (flat_vs r)
section
variable {X : Cx} {α : Type} [DecidableEq α] [Enc α] [DatumOrd α] [Dat α] [Srtb α] [FlatV α]
theorem each_flat : ∀ {us : List Value} {bs : List α}, Vals (bs.map FlatV.z) us → PySem.W.EachIs (fun v b => RelV (FlatV.z b) v) us bs
  | [], [], _ => .nil
  | _ :: _, [], h => by cases h
  | [], _ :: _, h => by cases h
  | _ :: _, _ :: _, h => by
    cases h with
    | cons r t => exact .cons r (each_flat t)
theorem flat_each : ∀ {us : List Value} {bs : List α}, PySem.W.EachIs (fun v b => RelV (FlatV.z b) v) us bs → Vals (bs.map FlatV.z) us
  | _, _, .nil => .nil
  | _, _, .cons r t => .cons r (flat_each t)
class FlatR (α : Type) [DecidableEq α] [Enc α] [FlatV α] [Datum α] : Prop where
  rd : ∀ {h : Heap} {v : Value} (a : α), RelV (FlatV.z a) v → Reads h v (Datum.toD a) []
instance : FlatR Int := ⟨fun a r => by obtain ⟨t, e⟩ := r; subst e; exact Reads.int a t⟩
instance : FlatR (List Nat) := ⟨fun a r => by obtain ⟨t, e⟩ := r; subst e; exact Reads.str (toStr a) t⟩
theorem sorted_flat [FlatR α] {pins : List (Addr × Obj)} {s : Shared} {σ : St} {H : Hp} {Q : VK} {src : Value} {bs : List α} (I : Inv X pins σ H s) (hu : X.A.units + 64 < cLine) (hd : Datum.depth α ≤ 60) (hL : bs.length ≤ sizeLine)
    (hc : ∀ R : List Value → Shared → Prop, (∀ h' tk us, (∀ b o, s.heap.get? b = some o → h'.get? b = some o) → Vals (bs.map FlatV.z) us → R us { s with heap := h', toks := tk }) → wpAny (model X.prog X.w) X.A.in1 (collect src) R X.xe s)
    (q : ∀ p, H p = none → Q (.ref p) (upd H p (.lst ((srt bs).map FlatV.z)))) : wpAny (model X.prog X.w) X.A (call (.builtin "sorted") [src]) (EP X pins σ Q) X.xe s := by
  refine Calls.call_function_entry PyProof.Rows.kind_sorted PyProof.Rows.plain_sorted PyProof.Rows.entry_sorted (PyProof.Rows.args_sorted1 _) ?_
  unfold Builtin.«sorted»
  refine wpAny_bind (m := checkCount "sorted" 1 1 _) (wpAny_pure ?_)
  refine wpAny_bind (hc _ fun h' tk us hk hv => ?_)
  have hl : us.length = bs.length := by have := hv.length; rw [List.length_map] at this; exact this.symm
  have I1 : Inv X pins σ H { s with heap := h', toks := tk } := I.kept hk
  refine wpAny_bind (wpAny_newList ?_ (by rw [hl]; exact hL))
  have hoL : (h'.push (PyProof.Rows.seqObj "list" us.toArray 0)).get? h'.objs.size = some (PyProof.Rows.seqObj "list" us.toArray 0) := Heap.get?_push_size _ rfl
  show wpAny _ _ _ _ _ { s with heap := h'.push (PyProof.Rows.seqObj "list" us.toArray 0), toks := tk }
  refine wpAny_bind (wpAny_holding (PySem.W.list_sort_data (enc := Datum.toD) (s := { s with heap := h'.push (PyProof.Rows.seqObj "list" us.toArray 0), toks := tk }) hoL (each_flat hv)
    ((each_flat hv).mono fun v b r => ⟨[], FlatR.rd b r, by simp⟩) (sort_alike bs) (sort_able bs) hL (fun b _ => by have := Datum.depth_le b; show X.A.units + 1 + 1 + _ < _; omega) fun out h1 h2 => ?_))
  rw [srt_eq] at h2
  obtain ⟨e', he'⟩ := PyProof.Rows.sortedHeap_at (vs := us) (out := out.toArray) hoL
  have h3 := flat_each h2
  have hlen : ((srt bs).map FlatV.z).length ≤ sizeLine := by rw [h3.length, h1]; exact hL
  refine wpAny_pure ⟨_, rfl, .ref h'.objs.size, upd H h'.objs.size (.lst ((srt bs).map FlatV.z)), I1.laid (t' := tk) (fun b u e => ?_) (Nat.le_refl _)
    (show ObjOk X.prog X.w _ _ _ (.lst ((srt bs).map FlatV.z)) from ⟨hlen, out, e', h3, he'⟩), rfl, q _ (I1.hok.fresh (Nat.le_refl _))⟩
  have hb : b < h'.objs.size := Heap.lt_size e
  rw [PyProof.Rows.sortedHeap_old (Nat.ne_of_lt hb) (by rw [PyProof.Rows.size_push']; exact Nat.lt_succ_of_lt hb)]
  exact Heap.get?_push_of_some _ e
end
section
variable {κ ν : Type} [DecidableEq κ]
def dval (d : List (κ × ν)) (k : κ) : Option ν := (d.find? fun kv => decide (kv.1 = k)).map (·.2)
def dput (d : List (κ × ν)) (k : κ) (v : ν) : List (κ × ν) := if (d.any fun kv => decide (kv.1 = k)) = true then d.map (fun kv => if kv.1 = k then (kv.1, v) else kv) else d ++ [(k, v)]
def dmerge (d more : List (κ × ν)) : List (κ × ν) := more.foldl (fun acc kv => dput acc kv.1 kv.2) d
end
section
variable {κ ν : Type} [DecidableEq κ] [Kk κ] [Enc ν] {K : Frag} {F : Hp}
theorem key_iff {a b : κ} : Kk.key a = Kk.key b ↔ a = b := ⟨Kk.inj, fun h => by rw [h]⟩
theorem kvs_val {zs : List (Key × V)} {d : List (κ × ν)} (h : KVs K F zs d) (k : κ) : (dval d k = none ∧ valV zs (Kk.key k) = none) ∨ ∃ v x, dval d k = some x ∧ valV zs (Kk.key k) = some v ∧ Enc.rep K F v x := by
  induction h with
  | nil => exact .inl ⟨rfl, rfl⟩
  | @cons p q zs d r t ih =>
    by_cases e : q.1 = k
    · refine .inr ⟨p.2, q.2, ?_, ?_, r.2⟩
      · simp [dval, List.find?_cons, e]
      · exact valV_pos (by rw [r.1, e])
    · have e' : ¬ p.1 = Kk.key k := fun z => e (Kk.inj (r.1.symm.trans z))
      rw [valV_neg e']
      have : dval (q :: d) k = dval d k := by simp [dval, List.find?_cons, e]
      rw [this]
      exact ih
theorem kvs_any {zs : List (Key × V)} {d : List (κ × ν)} (h : KVs K F zs d) (k : κ) : (zs.any fun kv => decide (kv.1 = Kk.key k)) = d.any fun kv => decide (kv.1 = k) := by
  induction h with
  | nil => rfl
  | @cons p q zs d r t ih =>
    rw [List.any_cons, List.any_cons, ih]
    congr 1
    rw [r.1]
    exact decide_eq_decide.mpr key_iff
theorem kvs_put {zs : List (Key × V)} {d : List (κ × ν)} (h : KVs K F zs d) {k : κ} {v : V} {x : ν} (r : Enc.rep K F v x) : KVs K F (putK zs (Kk.key k) v) (dput d k x) := by
  unfold putK dput
  rw [kvs_any h]
  by_cases e : (d.any fun kv => decide (kv.1 = k)) = true
  · rw [if_pos e, if_pos e]
    refine prd_map h fun a b q => ?_
    by_cases z : b.1 = k
    · rw [if_pos z, if_pos (by rw [q.1, z])]
      exact ⟨q.1, r⟩
    · rw [if_neg z, if_neg (fun y => z (Kk.inj (q.1.symm.trans y)))]
      exact q
  · rw [if_neg e, if_neg e]
    exact prd_app h (.cons ⟨rfl, r⟩ .nil)
theorem kvs_merge {ws : List (Key × V)} {e : List (κ × ν)} (k : KVs K F ws e) : ∀ {zs : List (Key × V)} {d : List (κ × ν)}, KVs K F zs d → KVs K F (mergeK zs ws) (dmerge d e) := by
  unfold mergeK dmerge
  induction k with
  | nil => exact fun h => h
  | @cons p q ws e r t ih =>
    intro zs d h
    rw [List.foldl_cons, List.foldl_cons]
    refine ih ?_
    rw [r.1]
    exact kvs_put h r.2
end
class KkV (κ : Type) [Kk κ] [Enc κ] : Prop where
  rep : ∀ {K : Frag} {F : Hp} (k : κ), Enc.rep K F (kV (Kk.key k)) k
  of : ∀ {K : Frag} {F : Hp} {v : V} {k : κ}, Enc.rep K F v k → v = kV (Kk.key k)
instance : KkV Int := ⟨fun _ => rfl, fun h => h⟩
instance : KkV (List Nat) := ⟨fun _ => rfl, fun h => h⟩
section
variable {Y : DX} {s : DSt} {e a b c d o : Expr} {es : List Expr} {pos p apos : Pos} {Q : Pv → DSt → Prop}
variable {κ ν : Type} [DecidableEq κ] [Kk κ] [Enc κ] [KkV κ] [Enc ν] {A B : Pv} {m : List (κ × ν)} {k : κ} {x : ν}
def DF (Y : DX) (s : DSt) {κ ν : Type} [Kk κ] [Enc ν] (A : Pv) (d : List (κ × ν)) : Prop := ∀ σ H F v, Sta Y s σ H F → A.rep Y.X.K F v → ∃ p kvs, v = .ref p ∧ Rd H p (.dK kvs) ∧ KVs Y.X.K F kvs d
theorem DF.pu {d : Dct κ ν} : DF Y s (pu d) d.kvs := fun σ H F v S ⟨p, od, kvs, e, hp, r⟩ => ⟨p, kvs, e, .inr ⟨od, S.ext _ _ hp⟩, r⟩
theorem DF.own {d : List (κ × ν)} {p : Addr} (i : Nat) (h : s.gs[i]? = some (p, dctc d)) : DF Y s (raw (.ref p)) d := fun σ H F v S r => by
  obtain ⟨_, o, ho, _, vs, eo, rv⟩ := S.cell h
  subst eo
  exact ⟨p, vs, r, .inl ho, rv⟩
def dhas (m : List (κ × ν)) (k : κ) : Bool := (dval m k).isSome
theorem ev_dnew {κ ν : Type} [Kk κ] [Enc ν] (q : ∀ p, Q (raw (.ref p)) ⟨s.ρ, (p, dctc ([] : List (κ × ν))) :: s.gs⟩) : Ev Y s (.Dict [] [] pos) Q := fun F0 σ H F e0 S =>
  .of pe_dnewK fun p hp => ⟨raw (.ref p), _, F, e0, rfl, S.newO (c := dctc ([] : List (κ × ν))) hp rfl ⟨[], rfl, .nil⟩, q p⟩
theorem pp_dict {σ : St} {F0 H F : Hp} {zs : List (Key × V)} (e0 : Ext F0 F) (S : Sta Y s σ H F) (r : KVs Y.X.K F zs m) (q : Addr) (hq : H q = none) (od : Obj) : Pp Y s σ F0 (pu (Dct.mk m)) (.ref q) (upd H q (.frz od (.dK zs))) :=
  ⟨upd F q (.frz od (.dK zs)), e0.trans (Ext.grow (S.free hq)), ⟨q, od, zs, rfl, upd_same, r.mono (Ext.grow (S.free hq))⟩, S.newF hq rfl⟩
theorem evp_dnew {κ ν : Type} [Kk κ] [Enc ν] : EvP Y s (.Dict [] [] pos) (pu (Dct.mk ([] : List (κ × ν)))) := fun F0 σ H F e0 S =>
  .lockAfter (.of pe_dnewK fun q hq => ⟨q, .dK [], upd_same, trivial, fun od => by
    rw [upd_upd]
    exact ⟨upd F q (.frz od (.dK [])), e0.trans (Ext.grow (S.free hq)), ⟨q, od, [], rfl, upd_same, .nil⟩, S.newF hq rfl⟩⟩)
end
end Sp
set_option maxHeartbeats 4000000
namespace Sp
open PySem L2
open PySem.W (Datum DatumOrd SomeDatum)
section
variable {Y : DX} {s : DSt} {e a b c d o : Expr} {es : List Expr} {pos p apos : Pos} {Q : Pv → DSt → Prop} {D : DE}
section
variable {κ ν : Type} [DecidableEq κ] [Kk κ] [Enc κ] [KkV κ] [Enc ν] {A B : Pv} {m : List (κ × ν)} {k : κ} {x : ν}
end
section
variable {κ ν : Type} [DecidableEq κ] [Kk κ] [Enc κ] [KkV κ] [Enc ν] {A B : Pv} {m : List (κ × ν)} {k : κ} {x : ν}
theorem pairs_kvs {K : Frag} {F : Hp} : ∀ {vs : List V} {xs : List (κ × ν)}, Vs K F vs xs → ∃ (ps : List Addr) (kvs : List (Key × V)), vs = ps.map V.ref ∧ Paired (fun p kv => F p = some (.tup [kV kv.1, kv.2])) ps kvs ∧ KVs K F kvs xs
  | _, _, .nil => ⟨[], [], rfl, .nil, .nil⟩
  | _, _, .cons ⟨p, a, b, e, h, ra, rb⟩ t => by
    obtain ⟨ps, kvs, h1, h2, h3⟩ := pairs_kvs t
    subst e h1
    have ea := KkV.of ra
    subst ea
    exact ⟨p :: ps, (_, b) :: kvs, rfl, .cons h h2, .cons ⟨rfl, rb⟩ h3⟩
theorem keys_at2 {P : Program} {w : World} {kvs : List (Key × V)} {vs : List (Key × Value)} {acc : Array Value} (rel : KV kvs vs) (hi : ItemsOf (fun i v => ∃ k x, vs[i]? = some (k, x) ∧ (mixKind P w).is k v = true) acc vs.length) : Vals (kvs.map fun p => kV p.1) acc.toList := by
  have h := keys_at (us := acc.toList) (vs := vs) (by rw [Array.length_toList]; exact hi.1) fun j v hv => by
    obtain ⟨k, x, h1, h2⟩ := hi.2 j v (by simpa using hv)
    exact ⟨k, x, h1, h2⟩
  have e : vs.map (fun p => kV p.1) = kvs.map fun p => kV p.1 := by
    have h1 : vs.map (fun p => kV p.1) = (vs.map (·.1)).map kV := by rw [List.map_map]; rfl
    have h2 : kvs.map (fun p => kV p.1) = (kvs.map (·.1)).map kV := by rw [List.map_map]; rfl
    rw [h1, h2, rel.keys]
  rw [e] at h
  exact h
theorem cr_sortedD {X : Cx} [DatumOrd κ] [Dat κ] [Srtb κ] [FlatV κ] [FlatR κ] (hz : ∀ k : κ, FlatV.z k = kV (Kk.key k)) (hc : X.calm = true) (hu : X.A.units + 64 < cLine) (hd : Datum.depth κ ≤ 60) : CallR X (.builtin "sorted") (fun vs H Q => ∃ (q : Addr) (zs : List (Key × V)) (ks : List κ), vs = [.ref q] ∧ Rd H q (.dK zs) ∧ zs.map (·.1) = ks.map Kk.key ∧ ∀ p, H p = none → Q (.ref p) (upd H p (.lst ((srt ks).map FlatV.z)))) := by
  intro pins s σ H vs us Q I r ⟨q, zs, ks, ev, hr, hk, k⟩
  subst ev
  obtain ⟨u, rfl, ru⟩ := vals1 r
  cases ru
  obtain ⟨hl, lo, ws, rel, dd⟩ := dk_rd I.hok hr
  obtain ⟨ep, hat⟩ := dd.dictAt
  have hln : ks.length = zs.length := by have := congrArg List.length hk; simpa using this.symm
  have hwl : zs.length = ws.length := rel.length
  refine sorted_flat (bs := ks) I hu hd (by omega) (fun R kk => ?_) k
  refine PySem.W.kdu_collect (A := X.A.in1) (PySem.W.kdl_dict (knd := mixKind X.prog X.w) (kvs := ws) (ep := ep) lo) (I.ok.hd hc) hat (by omega) fun h' tk acc hk2 hacc => kk h' tk _ hk2 ?_
  have h9 := keys_at2 rel hacc
  have e9 : zs.map (fun p => kV p.1) = ks.map FlatV.z := by
    have h1 : zs.map (fun p => kV p.1) = (zs.map (·.1)).map kV := by rw [List.map_map]; rfl
    rw [h1, hk, List.map_map]
    exact List.map_congr_left fun k _ => (hz k).symm
  rw [e9] at h9
  exact h9
theorem keys_key {K : Frag} {F : Hp} : ∀ {zs : List (Key × V)} {m : List (κ × ν)}, KVs K F zs m → zs.map (·.1) = (m.map (·.1)).map Kk.key
  | _, _, .nil => rfl
  | _, _, .cons r t => by rw [List.map_cons, List.map_cons, List.map_cons, keys_key t, r.1]
end
theorem joinT_cons (a x y : List Nat) (r : List (List Nat)) : joinT a ((x ++ a ++ y) :: r) = x ++ a ++ joinT a (y :: r) := by
  cases r with
  | nil => rfl
  | cons z r => simp only [joinT, List.append_assoc]
theorem glue_fold (a : List Nat) : ∀ (r : List (List Nat)) (x : List Nat), (r.map toStr).foldl (fun acc p => acc ++ (toStr a).cps ++ p.cps) (toStr x).cps = (toStr (joinT a (x :: r))).cps
  | [], x => rfl
  | y :: r, x => by
    have e : (toStr x).cps ++ (toStr a).cps ++ (toStr y).cps = (toStr (x ++ a ++ y)).cps := by simp [toStr]
    rw [List.map_cons, List.foldl_cons, e, glue_fold a r, joinT_cons]
    rfl
theorem toStr_join' (a : List Nat) (xs : List (List Nat)) : Txt.join (toStr a) (xs.map toStr) = toStr (joinT a xs) := by
  unfold Txt.join Builtin.Str.glued
  cases xs with
  | nil => rfl
  | cons x r =>
    have h := glue_fold a r x
    simp only [List.map_cons, List.drop_succ_cons, List.drop_zero, List.headD_cons]
    rw [h]
theorem txts_map {K : Frag} {H : Hp} {vs : List V} {xs : List (List Nat)} (h : Vs K H vs xs) : vs = (xs.map toStr).map V.str := vs_txts h
def lenSum (xs : List (List Nat)) : Nat := (xs.map List.length).sum
end
section
variable {Y : DX} {s : DSt} {e a b c d o tg : Expr} {es elts : List Expr} {pos p apos cpos tpos : Pos} {kk : Nat}
def enumD {α : Type} (xs : List α) : List (Int × α) := xs.mapIdx fun i x => ((i : Int), x)
section
variable {κ ν : Type} [Kk κ] [Enc κ] [KkV κ] [Enc ν] {m : Dct κ ν}
end
end
end Sp
set_option maxHeartbeats 4000000
namespace Sp
open PySem L2
open PySem.W (Datum DatumOrd SomeDatum)
abbrev Flds := List (Str × Pv)
abbrev FR (K : Frag) (F : Hp) : List (Str × V) → Flds → Prop := Paired fun p q => p.1 = q.1 ∧ q.2.rep K F p.2
theorem FR.mono {K : Frag} {F F' : Hp} {vs : List (Str × V)} {fs : Flds} (h : FR K F vs fs) (e : Ext F F') : FR K F' vs fs := Paired.mapP h fun _ q r => ⟨r.1, q.2.mono r.2 e⟩
def insP (C : Addr) (fs : Flds) : Pv := ⟨fun K F v => ∃ a dx vs, v = .ref a ∧ F a = some (.ins C dx vs) ∧ FR K F vs fs, fun ⟨a, dx, vs, h1, h2, h3⟩ e => ⟨a, dx, vs, h1, e _ _ h2, h3.mono e⟩⟩
def insc (C : Addr) (fs : Flds) : Cell := ⟨fun K F o => ∃ dx vs, o = .ins C dx vs ∧ FR K F vs fs, fun ⟨dx, vs, h1, h2⟩ e => ⟨dx, vs, h1, h2.mono e⟩⟩
def fput (f : Str) (A : Pv) : Flds → Flds
  | [] => [(f, A)]
  | (g, B) :: r => if g = f then (g, A) :: r else (g, B) :: fput f A r
theorem fr_put {K : Frag} {F : Hp} {f : Str} {v : V} {A : Pv} {vs : List (Str × V)} {fs : Flds} (h : FR K F vs fs) (r : A.rep K F v) : FR K F (putF f v vs) (fput f A fs) := by
  induction h with
  | nil => exact .cons ⟨rfl, r⟩ .nil
  | @cons p q vs fs r1 t ih =>
    obtain ⟨g, x⟩ := p
    obtain ⟨g', B⟩ := q
    have e : g = g' := r1.1
    subst e
    unfold putF fput
    by_cases z : g = f
    · rw [if_pos z, if_pos z]
      exact .cons ⟨rfl, r⟩ t
    · rw [if_neg z, if_neg z]
      exact .cons r1 ih
theorem fr_look {K : Frag} {F : Hp} {f : Str} {A : Pv} {vs : List (Str × V)} {fs : Flds} (h : FR K F vs fs) (l : fs.lookup f = some A) : ∃ v, vs.lookup f = some v ∧ A.rep K F v := by
  induction h with
  | nil => cases l
  | @cons p q vs fs r1 t ih =>
    obtain ⟨g, x⟩ := p
    obtain ⟨g', B⟩ := q
    have e : g = g' := r1.1
    subst e
    rw [List.lookup_cons] at l ⊢
    cases z : f == g with
    | true => rw [z] at l; cases l; exact ⟨x, rfl, r1.2⟩
    | false => rw [z] at l; exact ih l
theorem fr_no {K : Frag} {F : Hp} {f : Str} {vs : List (Str × V)} {fs : Flds} (h : FR K F vs fs) (l : fs.lookup f = none) : vs.lookup f = none := by
  induction h with
  | nil => rfl
  | @cons p q vs fs r1 t ih =>
    obtain ⟨g, x⟩ := p
    obtain ⟨g', B⟩ := q
    have e : g = g' := r1.1
    subst e
    rw [List.lookup_cons] at l ⊢
    cases z : f == g with
    | true => rw [z] at l; cases l
    | false => rw [z] at l; exact ih l
theorem not_codeI {o : HO} {C dx : Addr} {vs : List (Str × V)} (h : o = .ins C dx vs) : ∀ φ, o ≠ HO.ext φ := fun φ z => by rw [h] at z; cases z
section
variable {Y : DX} {s : DSt} {e a b c d o : Expr} {es : List Expr} {pos p apos : Pos} {Q : Pv → DSt → Prop} {D : DE} {C : Addr} {fs : Flds} {f : Str} {A : Pv}
def IA (Y : DX) (s : DSt) (A : Pv) (C : Addr) (fs : Flds) : Prop := ∀ σ H F v, Sta Y s σ H F → A.rep Y.X.K F v → ∃ a dx vs, v = .ref a ∧ H a = some (.ins C dx vs) ∧ FR Y.X.K F vs fs
theorem IA.pu : IA Y s (insP C fs) C fs := fun σ H F v S ⟨a, dx, vs, h1, h2, h3⟩ => ⟨a, dx, vs, h1, S.ext _ _ h2, h3⟩
theorem IA.own {q : Addr} (i : Nat) (h : s.gs[i]? = some (q, insc C fs)) : IA Y s (raw (.ref q)) C fs := fun σ H F v S r => by
  obtain ⟨_, o, ho, _, dx, vs, eo, rv⟩ := S.cell h
  subst eo
  exact ⟨q, dx, vs, r, ho, rv⟩
theorem evp_fld {B : Pv} (c : Cls Y.X.K C) (n : NoAttr Y.X.K C f) (ho : EvP Y s o B) (hB : IA Y s B C fs) (l : fs.lookup f = some A) (hb : attributeBase o f Y.X.env (eval o Y.X.env) = eval o Y.X.env := by rfl) : EvP Y s (.Attribute o f pos) A := fun F0 σ H F e0 S => by
  refine .of (pe_fld pe_we hb) ((ho F0 σ H F e0 S).mono fun v H1 ⟨F1, e1, r1, S1⟩ => ?_)
  obtain ⟨a, dx, vs, ev, ha, rf⟩ := hB σ H1 F1 v S1 r1
  obtain ⟨w, l2, rw'⟩ := fr_look rf l
  exact ⟨a, C, dx, vs, w, ev, ha, c, n, l2, F1, e1, rw', S1⟩
theorem w1_fld {q : Addr} {p2 : Pos} (i : Nat) (c : Cls Y.X.K C) (n : NoAttr Y.X.K C f) (hl : fs.length < 1000)
    (hv : Ev Y s e fun X s1 => s1.gs[i]? = some (q, insc C fs) ∧ EvP Y s1 o (raw (.ref q)) ∧ D.nx ⟨s1.ρ, s1.gs.set i (q, insc C (fput f X fs))⟩)
    (hs : swapsWith e (some (.Attribute o f p2)) pos.line Y.X.env = pure false := by rfl) : W1 Y s (.Assign [.Attribute o f p2] e pos) D := fun F0 σ H F e0 S => by
  refine .of (ps_fld pe_we pe_we hs) ?_
  refine (hv F σ H F (.refl _) S).mono fun v H1 ⟨X, s1, F1, e1, r1, S1, hi, ho, k1⟩ => ?_
  refine (ho F1 σ H1 F1 (.refl _) S1).mono fun u H2 ⟨F2, e2, r2, S2⟩ => ?_
  obtain ⟨hF, oo, hoo, _, dx, vs, eo, rv⟩ := S2.cell hi
  subst eo
  exact ⟨q, C, dx, vs, r2, hoo, c, n, by rw [show vs.length = fs.length from Paired.length rv]; exact hl, _, F2, (e0.trans e1).trans e2, S2.write (c' := insc C (fput f X fs)) hi hoo (not_codeI rfl) rfl ⟨dx, _, rfl, fr_put rv (X.mono r1 e2)⟩, k1⟩
structure Mt (P : Program) (w : World) (K : Frag) (mg : Str → Option Value) (base : Heap) (T : Tb) (k : Nat) (C : Addr) (m : Str) (ps : List Str) (d : DSp) : Prop where
  ex : ∃ (f : Addr) (fd : FuncData), FnOk P w K mg base (L2.CX P w) k f fd ps (toSp K T ps.length d) ∧ Meth K C m f ∧ Binds K fd ps []
  mono : DMono d
section
variable {X : Cx} {CX : CXT} {k : Nat} {ff : Addr} {fd : FuncData} {ps : List Str} {sp : Sp} {E : St → XK} {m : Str} {ta : TE} {t : TA}
def tMethS (C : Addr) (m : Str) (sp : Sp) (E : St → XK) (ta : TE) (t : TA) : TE := fun σ H Q => ta σ H fun x H1 => ∃ a dx fs, x = .ref a ∧ H1 a = some (.ins C dx fs) ∧ fs.lookup m = none ∧ t σ H1 fun vs H2 => sp (x :: vs) H2 Q (E σ)
theorem pe_methS {pl : Sem Bool} (he : PE X o ta) (c : Cls X.K C) (hm : Meth X.K C m ff) (F : FnOk X.prog X.w X.K X.mg X.base CX k ff fd ps sp) (hr : Room k X.A) (hb : Binds X.K fd ps []) (hx : ∀ σ, PassesAt CX X σ (E σ)) (ha : PA X (e :: es) t)
    (hst : starEach (e :: es) X.env = (false, eval e X.env) :: starEach es X.env) (hpl : (backTo pos (starEach es X.env)).any (·.1) = false)
    (ht : eval (.Call (.Attribute o m apos) (e :: es) [] pos) X.env = (do
      let ov ← eval o X.env
      standAt apos.atName
      let (f, first) ← holding [ov] (getMethod ov m pl)
      callWith pos f first (backTo pos (starEach (e :: es) X.env)) (backToKw pos (keywordEach [] X.env)))) :
    PE X (.Call (.Attribute o m apos) (e :: es) [] pos) (tMethS C m sp E ta t) := by
  refine ⟨fun pins s σ H Q I h => ?_⟩
  refine PySem.W.methodCall_KW (pl := pl) (thn (he.run pins s σ H _ I h) fun u s1 ⟨x, H1, I1, rx, a, dx, fs, ex, ea, l, q⟩ => ?_) ht
  subst ex
  obtain rfl : u = Value.ref a := rx
  refine getmeth_ok I1 ea c hm l ?_
  refine PySem.W.callWith_K (first := [.ref a]) (h₀ := X.base) I.ok.mod.kin hm.kp (thn (ha.run pos pins s1 σ H1 _ I1 q) fun us s2 ⟨vs, H2, I2, r, q2⟩ => ⟨I2.kIn, ?_⟩) hst hpl
  exact run_fnS (us := .ref a :: us) (vs := .ref a :: vs) F hr hb (hx σ) I2 (.cons rfl r) q2
end
structure Mkr (P : Program) (w : World) (K : Frag) (mg : Str → Option Value) (base : Heap) (T : Tb) (k : Nat) (x : Str) (C : Addr) (ps : List Str) (d : DSp) : Prop where
  ex : ∃ (f : Addr) (fd : FuncData), FnOk P w K mg base (L2.CX P w) k f fd ps (toSp K T ps.length d) ∧ Mk K C f ∧ Binds K fd ps []
  g : mg x = some (.ref C)
  mono : DMono d
theorem run_makeS {X : Cx} {CX : CXT} {k : Nat} {ff : Addr} {fd : FuncData} {ps : List Str} {sp : Sp} {E : XK} {pins : List (Addr × Obj)} {σ : St} {H : Hp} {s : Shared} {Q : VK} {us : List Value} {vs : List V} (M : Mk X.K C ff) (F : FnOk X.prog X.w X.K X.mg X.base CX k ff fd ps sp) (hr : Room (k + 1) X.A) (hb : Binds X.K fd ps [])
    (hx : PassesAt CX X σ E) (I : Inv X pins σ H s) (r : Vals vs us)
    (h : ∀ x dx, H x = none → H dx = none → dx ≠ x → sp (.ref x :: vs) (upd (upd H dx (.own x)) x (.ins C dx [])) (fun v H2 => v = .non ∧ Q (.ref x) H2) E) :
    wpAny (model X.prog X.w) X.A (call (.ref C) us) (EP X pins σ Q) X.xe s := by
  have hq := h (s.heap.objs.size + 1) s.heap.objs.size (I.hok.fresh (Nat.le_succ _)) (I.hok.fresh (Nat.le_refl _)) (Nat.ne_of_lt (Nat.lt_succ_self _))
  have I2 := Inv.made (C := C) I
  have r2 : Vals (V.ref (s.heap.objs.size + 1) :: vs) (Value.ref (s.heap.objs.size + 1) :: us) := .cons rfl r
  have hl : (Value.ref (s.heap.objs.size + 1) :: us).length = ps.length := by
    have e := r2.length
    rw [F.len _ _ _ _ hq] at e
    exact e.symm
  have b := hb _ (Value.ref (s.heap.objs.size + 1) :: us) I2.kIn (by rw [List.append_nil]; exact hl)
  rw [List.append_nil] at b
  refine wpAny_call (make_map (f := ff) I.kIn M.makes M.init (beq_iff_eq.mp M.fn) (codeAny_mono (F.run _ X.stack _ _ ⟨Value.ref (s.heap.objs.size + 1) :: us, []⟩ (Value.ref (s.heap.objs.size + 1) :: us) _ _ E (hr.make C us [])
    (I2.env0.make C us []) b r2 hq) fun r s' hq' => ?_))
  cases r with
  | error e => exact hx pins _ _ e s' I2 hq'
  | ok fl =>
    cases fl with
    | ret u =>
      obtain ⟨v, H', I3, rv, ev, q3⟩ := I2.after hq'
      subst ev
      exact ⟨rv, ⟨V.ref (s.heap.objs.size + 1), H', I3, rfl, q3⟩⟩
    | next => exact False.elim hq'
    | brk => exact False.elim hq'
    | cont => exact False.elim hq'
def tMakeS (C : Addr) (sp : Sp) (E : St → XK) (t : TA) : TE := fun σ H Q => t σ H fun vs H1 => ∀ x dx, H1 x = none → H1 dx = none → dx ≠ x → sp (.ref x :: vs) (upd (upd H1 dx (.own x)) x (.ins C dx [])) (fun v H2 => v = .non ∧ Q (.ref x) H2) (E σ)
theorem pe_makeS {X : Cx} {CX : CXT} {k : Nat} {ff : Addr} {fd : FuncData} {ps : List Str} {sp : Sp} {E : St → XK} {x : Str} {t : TA} (M : Mk X.K C ff) (F : FnOk X.prog X.w X.K X.mg X.base CX k ff fd ps sp) (hr : Room (k + 1) X.A) (hg : Gl X x) (hm : X.mg x = some (.ref C)) (hb : Binds X.K fd ps []) (hx : ∀ σ, PassesAt CX X σ (E σ))
    (ha : PA X (e :: es) t) (hdb : (x == ("__debug__" : Str)) = false) (he : starEach (e :: es) X.env = (false, eval e X.env) :: starEach es X.env) (hpl : (backTo pos (starEach es X.env)).any (·.1) = false) :
    PE X (.Call (.Name x p) (e :: es) [] pos) (tMakeS C sp E t) := by
  refine ⟨fun pins s σ H Q I h => ?_⟩
  refine wpAny_Call_Name_kw (ld_glob I hg hm ?_ hdb)
  refine PySem.W.callWith_K (h₀ := X.base) I.ok.mod.kin M.kp (thn (ha.run pos pins s σ H _ I h) fun us s1 ⟨vs, H1, I1, r, q⟩ => ⟨I1.kIn, ?_⟩) he hpl
  exact run_makeS M F hr hb (hx σ) I1 r q
end
end Sp
set_option maxHeartbeats 4000000
namespace Sp
open PySem L2
open PySem.W (Datum DatumOrd SomeDatum)
abbrev Cls_ := List (Addr × Txt)
def Tell (K : Frag) : Cls_ → Addr → Txt → Prop
  | [], _, _ => False
  | (c, x) :: r, C, t => ∃ b, PySem.W.exmOne K (.ref C) (.ref c) = some b ∧ (b = true → t = x) ∧ (b = false → Tell K r C t)
def Chn (K : Frag) : Cls_ → Value → Hp → VK → Prop
  | [], _, _, _ => False
  | (c, x) :: r, cls, H, Q => ∃ b, PySem.W.exmOne K cls (.ref c) = some b ∧ (b = true → Q (.str (toStr x)) H) ∧ (b = false → Chn K r cls H Q)
theorem tell_chn {K : Frag} {H : Hp} {Q : VK} {C : Addr} {t : Txt} : ∀ {l : Cls_}, Tell K l C t → Q (.str (toStr t)) H → Chn K l (.ref C) H Q
  | [], h, _ => h.elim
  | (c, x) :: r, ⟨b, h1, h2, h3⟩, q => ⟨b, h1, fun e => by rw [← h2 e]; exact q, fun e => tell_chn (h3 e) q⟩
def TTm (K : Frag) (l : Cls_) : (XK → Hp → VK → Prop) → Hp → VK → Prop := fun tl H Q => tl (fun cls _ H' => Chn K l cls H' Q) H Q
inductive HdT (K : Frag) (mg : Str → Option Value) (sg : Scope) : List ExceptHandler → Cls_ → Prop
  | nil : HdT K mg sg [] []
  | cons {e m : Str} {c : Addr} {x : Txt} {j : Nat} {p4 p5 p6 p7 : Pos} {hds : List ExceptHandler} {l : Cls_} : sg.names.lookup e = some .globalImplicit → mg e = some (.ref c) → (e == ("__debug__" : Str)) = false → toStr x = m → HdT K mg sg hds l →
      HdT K mg sg (.ExceptHandler (some (.Name e p4)) none [.Return (some (.Constant (.str m) j p5)) p6] p7 :: hds) ((c, x) :: l)
section
variable {X : Cx}
def tsR (x : Str) : Addr → Value → Option Addr → TS := fun _ _ _ D σ H => D.rt (.str x) H
theorem hds_ok {Z : Cx} {sg : Scope} {hds : List ExceptHandler} {l : Cls_} (h : HdT Z.K Z.mg sg hds l) (hz : Z.env.scope = sg) : HdsOk Z hds (l.map fun cx => (Value.ref cx.1, tsR (toStr cx.2))) := by
  induction h with
  | nil => exact .nil
  | cons h1 h2 h3 h4 _ ih =>
    subst h4
    refine .cons ⟨?_, h3, .inl h2⟩ (fun a oe cls d pn _ _ => ?_) ih
    · show Z.env.scope.names.lookup _ = _
      rw [hz]
      exact h1
    · exact ⟨fun pins s σ H D I q => (pss_one (ps_ret pe_str)).run pins s σ H D I q⟩
theorem many_chn {K : Frag} {D : Ends} {σ : St} {H : Hp} {cls : Value} {d : Option Addr} : ∀ {l : Cls_}, Chn K l cls H D.rt → wMany K (fun _ _ _ _ => False) D (l.map fun cx => (Value.ref cx.1, tsR (toStr cx.2))) cls d σ H
  | [], h => h
  | (c, x) :: r, ⟨b, h1, h2, h3⟩ => ⟨b, h1, fun e a _ => h2 e, fun e => many_chn (h3 e)⟩
theorem told_many {Ng : List Str} {x a q : Str} {sg : Scope} {g : Addr} {cdg : Value} {p1 p2 p3 p8 : Pos} {h0 : ExceptHandler} {hds : List ExceptHandler} {l : Cls_} (hh : HdT X.K X.mg sg (h0 :: hds) l) (hN : ∀ f : Addr, (L2.start Ng [V.ref f])[0]? = some (some (V.ref f))) :
    LamX.GivesTo X Ng x sg g cdg [.Try [.Return (some (.Call (.Name a p1) [] [] p2)) p3] (h0 :: hds) [] [] p8] a q (TTm X.K l) := by
  intro f c' s H Q tl act hc h
  refine ⟨_, pss_one (ps_try_many (X := (cxOf C8.CX0 X.prog X.w X.K X.mg X.base Ng x sg g cdg X.A X.stack s H C8.E0).nox)
    (tb := fun W D σ H => ∃ Ech : XK, (∀ cls d σ' H', Ech cls d H' → W cls d σ' H') ∧ σ[0]? = some (some (.ref f)) ∧ H c' = some (LamX.CodeO c' q) ∧ tl Ech H D.rt)
    rfl rfl LamX.takes0 (fun W pn xe tk _ => ?_) (hds_ok hh rfl)), ?_⟩
  · exact ⟨fun pins s' σ H' D I ⟨Ech, hW, h1, h2, h3⟩ => (pss_one (ps_ret (pos := p3) (act W pn xe Ech p1 p2 tk hW))).run pins s' σ H' D I ⟨h1, h2, h3⟩⟩
  · exact ⟨fun cls _ H' => Chn X.K l cls H' Q, fun cls d σ' H' z => many_chn (D := { nx := fun _ H' => Q .non H', rt := Q }) z, hN f, hc, h⟩
end
theorem among_app2 {pos p' : Pos} {c cv : Value} (l : List Value) (h : TriplesOk l) (hc : codeAmong p' (l ++ [rawInt pos.line, rawInt pos.col, c]) = some cv) : codeAmong p' l = some cv ∨ cv = c ∧ p'.line = pos.line ∧ p'.col = pos.col := by
  fun_induction TriplesOk l with
  | case1 =>
    simp only [List.nil_append, rawInt, codeAmong] at hc
    split at hc
    · rename_i q
      refine .inr ⟨(Option.some.inj hc).symm, ?_⟩
      simp only [Bool.and_eq_true, beq_iff_eq] at q
      omega
    · cases hc
  | case2 a t b u x rest ih =>
    simp only [List.cons_append, codeAmong] at hc ⊢
    split at hc
    · rename_i q
      rw [if_pos q]
      exact .inl hc
    · rename_i q
      rw [if_neg q]
      exact ih h hc
  | case3 l h1 h2 => exact h.elim
theorem mix_tb {T : Tb} {H H' : Hp} {P : Addr} {k0 : Tk} (h : TbOk T H) (hm : (P, k0) ∈ T) (hu : ∀ p ∈ T, p.1 = P → p.2 = k0) (sm : ∀ b o, H b = some o → b ≠ P → H' b = some o) (ex : LamX.ExtN H H') (hn : TbE H' P k0) : TbOk T H' := fun p hp => by
  obtain ⟨a, k⟩ := p
  by_cases hb : a = P
  · have hk : k = k0 := hu _ hp hb
    rw [hb, hk]
    exact hn
  · have h0 := h _ hp
    cases k with
    | plain q =>
      obtain ⟨qs, a1, a2, a3⟩ := h0
      refine ⟨qs, sm _ _ a1 hb, a2, fun p' cv hcv' => ?_⟩
      obtain ⟨c0, e1, e2⟩ := a3 p' cv hcv'
      exact ⟨c0, e1, ex _ _ e2 LamX.codeO_ne⟩
    | nest z9 =>
      obtain ⟨qs, a1, a2, a3⟩ := h0
      refine ⟨qs, sm _ _ a1 hb, a2, fun p' cv hcv' => ?_⟩
      obtain ⟨c0, P0, e1, e2, e3⟩ := a3 p' cv hcv'
      exact ⟨c0, P0, e1, ex _ _ e2 (fun _ z => by unfold CodeT at z; cases z), ex _ _ e3 (fun _ z => by unfold PTab at z; cases z)⟩
    | own =>
      obtain ⟨P0, q, e2, e3⟩ := h0
      exact ⟨P0, q, ex _ _ e2 (fun _ z => by unfold CodeT at z; cases z), ex _ _ e3 (fun _ z => by unfold PTab at z; cases z)⟩
    | mix ls q =>
      obtain ⟨qs, a1, a2, a3⟩ := h0
      refine ⟨qs, sm _ _ a1 hb, a2, fun p' cv hcv' => ?_⟩
      obtain ⟨c0, e1, e2⟩ := a3 p' cv hcv'
      exact ⟨c0, e1, fun l => ex _ _ (e2 l) LamX.codeO_ne⟩
section
variable {X : Cx} {pins : List (Addr × Obj)} {σ : L2.St} {H : Hp} {s : Shared}
def OthT (P : Addr) (H H1 : Hp) : Prop := ∀ b ps, b ≠ P → H b = some (.tbl ps) → H1 b = some (.tbl ps)
structure LamAt (X : Cx) (T : List (Addr × Str)) (P : Addr) (params : Arguments) (body : Expr) (scope : Scope) (H H1 : Hp) (f c' : Addr) (pm ctv : Value) (s' : Shared) : Prop where
  ext : LamX.ExtN H H1
  tabs : LamX.Tabs T H1
  oth : OthT P H H1
  obj : s'.heap.get? f = some (PySem.W.kla_obj "<lambda>" (X.env.qual ++ "<lambda>") params body scope (cloFrom X.env.cells scope.names []) pm c' ctv)
  free : H1 f = none
  nofr : f ∉ frs X.stack
  code : H1 c' = some (LamX.CodeO c' (X.env.qual ++ "<lambda>"))
theorem lam_laid {T : List (Addr × Str)} {c P : Addr} {params : Arguments} {body : Expr} {scope : Scope} {pos : Pos} {E Q : Value → Shared → Prop} (I : Inv X pins σ H s) (B : LamX.TabB X.base X.mg c P) (hcode : X.env.code = .ref c)
    (hm : (P, X.env.qual ++ "<lambda>") ∈ T) (hu : ∀ p ∈ T, p.1 = P → p.2 = X.env.qual ++ "<lambda>") (hT : LamX.Tabs T H) (hdef : defaultsOf params X.env = ([], [])) (hfree : ∀ y ∈ scope.names, y.2 = .free → ∃ c, X.env.cells.lookup y.1 = some c)
    (h : ∀ (f c' : Addr) (pm ctv : Value) (H1 : Hp) (s' : Shared), Inv X pins σ H1 s' → LamAt X T P params body scope H H1 f c' pm ctv s' → Q (.ref f) s') :
    wpAny (model X.prog X.w) X.A (eval (.Lambda params body scope pos) X.env) Q E s := by
  obtain ⟨ps, hP, ht, ha⟩ := hT _ hm
  have bP : s.heap.BuiltinsAt X.mg P := B.bm.keeps I.bk
  have oP : s.heap.get? P = some { cls := .none, data := .fields ps } := I.hok P _ hP
  have away : ∀ f : Addr, s.heap.objs.size ≤ f → f ∉ frs X.stack := fun f hf z => (List.mem_cons.mp (I.stkSub _ z)).elim
    (fun e => absurd (Nat.lt_of_lt_of_le (show f < s.heap.objs.size by rw [e]; exact I.lt) hf) (Nat.lt_irrefl _)) (fun e => I.nofs hf e)
  refine PySem.W.kla_eval hdef ?_
  cases hf : codeAmong pos ps.toList with
  | some cv =>
    obtain ⟨c', rfl, hco⟩ := ha pos cv hf
    refine PySem.W.kla_makeFunctionHit (mg := X.mg) (c := c) (P := P) (ps := ps) (closure_ok hfree) I.ok.glob (I.mod.glob.keeps I.bk) hcode (B.code.keeps I.bk) oP ht hf bP fun ctv h' tk hx hsz => ?_
    exact h _ c' _ ctv H _ (I.kept fun b o e => Heap.get?_push_of_some _ (hx b o e)) ⟨.refl H, hT, fun _ _ _ e => e, Heap.get?_push_size _ rfl, I.hok.fresh hsz, away _ hsz, hco⟩
  | none =>
    refine PySem.W.kla_makeFunction (mg := X.mg) (c := c) (P := P) (ps := ps) (closure_ok hfree) I.ok.glob (I.mod.glob.keeps I.bk) hcode (B.code.keeps I.bk) oP ht hf B.gP bP fun c' ctv h' tk hx hge hlt hrec htb => ?_
    obtain ⟨c2, oc, vs, t, e2, hoc, hd, hv⟩ := hrec
    cases e2
    have big : s.heap.objs.size ≤ h'.objs.size := Nat.le_trans hge (Nat.le_of_lt hlt)
    have nC : H c' = none := I.hok.fresh hge
    have oth : OthT P H (upd (upd H P (.tbl (ps ++ #[rawInt pos.line, rawInt pos.col, .ref c']))) c' (LamX.CodeO c' (X.env.qual ++ "<lambda>"))) := fun b qs hb e => by
      rw [upd_ne (ne_of_none e nC), upd_ne hb]; exact e
    have ex : LamX.ExtN H (upd (upd H P (.tbl (ps ++ #[rawInt pos.line, rawInt pos.col, .ref c']))) c' (LamX.CodeO c' (X.env.qual ++ "<lambda>"))) := fun b o e n => by
      have nb : b ≠ P := fun z => by rw [z, hP] at e; exact n ps (Option.some.inj e).symm
      rw [upd_ne (ne_of_none e nC), upd_ne nb]; exact e
    have J := LamX.inv_table (t' := tk) (more := #[rawInt pos.line, rawInt pos.col, .ref c']) (h' := h'.push (PySem.W.kla_obj "<lambda>" (X.env.qual ++ "<lambda>") params body scope (cloFrom X.env.cells scope.names []) ((X.mg "__name__").getD .none) c' ctv)) I hP
      (fun b o hb e => Heap.get?_push_of_some _ (hx b o hb e)) (Heap.get?_push_of_some _ htb) hge ⟨oc, vs, t, Heap.get?_push_of_some _ hoc, hd, hv⟩
    have tl : (ps ++ #[rawInt pos.line, rawInt pos.col, .ref c']).toList = ps.toList ++ [rawInt pos.line, rawInt pos.col, .ref c'] := by simp
    refine h h'.objs.size c' _ ctv _ _ J ⟨ex, fun p hp => ?_, oth, Heap.get?_push_size _ rfl, ?_, away _ big, upd_same⟩
    · have old : ∀ {qs : Array Value} {q : Str}, (∀ pos' cv, codeAmong pos' qs.toList = some cv → ∃ d, cv = .ref d ∧ H d = some (LamX.CodeO d q)) → ∀ pos' cv, codeAmong pos' qs.toList = some cv → ∃ d, cv = .ref d ∧ upd (upd H P (.tbl (ps ++ #[rawInt pos.line, rawInt pos.col, .ref c']))) c' (LamX.CodeO c' (X.env.qual ++ "<lambda>")) d = some (LamX.CodeO d q) := fun k pos' cv hcv => by
        obtain ⟨d, e1, e2⟩ := k pos' cv hcv
        exact ⟨d, e1, ex _ _ e2 LamX.codeO_ne⟩
      by_cases hb : p.1 = P
      · have hq := hu p hp hb
        rw [hq, hb]
        refine ⟨_, by rw [upd_ne (ne_of_none hP nC), upd_same], by rw [tl]; exact PySem.TriplesOk_snoc _ _ _ _ ht, fun pos' cv hcv => ?_⟩
        rw [tl] at hcv
        exact (LamX.among_app _ ht hcv).elim (fun z => old ha pos' cv z) fun z => ⟨c', z, upd_same⟩
      · obtain ⟨qs, a1, a2, a3⟩ := hT p hp
        exact ⟨qs, oth _ _ hb a1, a2, old a3⟩
    · have n2 : h'.objs.size ≠ P := Nat.ne_of_gt (Nat.lt_of_lt_of_le (Heap.lt_size oP) big)
      rw [upd_ne (Nat.ne_of_gt hlt), upd_ne n2]
      exact I.hok.fresh big
end
def tLamO (T : List (Addr × Str)) (P : Addr) (TT : (XK → Hp → VK → Prop) → Hp → VK → Prop) (t : XK → TE) : TE := fun σ H Q => LamX.Tabs T H ∧ ∀ H1, LamX.ExtN H H1 → LamX.Tabs T H1 → OthT P H H1 → TT (fun E H' Q' => t E σ H' Q') H1 Q
theorem pe_lamO {X : Cx} {T : List (Addr × Str)} {TT : (XK → Hp → VK → Prop) → Hp → VK → Prop} {x a : Str} {g c P : Addr} {k : Nat} {pg : Arguments} {bg : List Stmt} {sg : Scope} {dV kV doc pm cdv ct oc : Value} {an od : Option Addr} {osl : Array (Option Value)} {Ng : List Str}
    {params : Arguments} {body : Expr} {scope : Scope} {t : XK → TE} {p lpos pos : Pos} (hg : Gl X x) (hm : X.mg x = some (.ref g)) (hk : PySem.W.keepIn X.K (.ref g) = true) (lk : X.K.lookup g = some ⟨oc, od, .func (PySem.W.fnOf x x pg bg sg dV kV doc pm an cdv ct), osl⟩)
    (hcg : PySem.W.codeIn X.K cdv x = true) (hb : L2.Binds X.K (PySem.W.fnOf x x pg bg sg dV kV doc pm an cdv ct) [a] []) (Sg : FnScope Ng [a] sg) (hNg : Ng[0]? = some a) (hva : Vis sg a) (hG : LamX.GivesTo X Ng x sg g cdv bg a (X.env.qual ++ "<lambda>") TT)
    (B : LamX.TabB X.base X.mg c P) (hcode : X.env.code = .ref c) (hmT : (P, X.env.qual ++ "<lambda>") ∈ T) (hu : ∀ p ∈ T, p.1 = P → p.2 = X.env.qual ++ "<lambda>") (hr : Room (k + 2) X.A) (L : LamX.LamS X.env.scope scope) (hdef : defaultsOf params X.env = ([], []))
    (hbind : ∀ (q : Str) (cl : List (Str × Addr)) (pm cv ctv : Value), bindArgs (PySem.W.kla_fn "<lambda>" q params body scope cl pm cv ctv) ⟨[], []⟩ = pure [])
    (hbody : ∀ (A : Around) (outer : List Env) (s : Shared) (H : Hp) (E : XK) (f c' : Addr), Room k (A.deeper (LamX.lamEnv X scope s.heap.objs.size f c')) → PE (LamX.lamCx X A outer s H E scope f c') body (t E))
    (hdb : (x == ("__debug__" : Str)) = false) (hd : (a == ("__debug__" : Str)) = false) (hcd : (a == ("__classdict__" : Str)) = false) : PE X (.Call (.Name x p) [.Lambda params body scope lpos] [] pos) (tLamO T P TT t) := by
  refine ⟨fun pins s σ H Q I ⟨hT, h⟩ => ?_⟩
  refine wpAny_Call_Name_kw (ld_glob I hg hm (PySem.W.callWith_K (h₀ := X.base) I.ok.mod.kin hk ?_ (by rfl) (by rfl)) hdb)
  show wpAny _ _ (spliced ((false, eval (.Lambda params body scope lpos) X.env) :: backTo pos (starEach [] X.env))) _ _ s
  refine Calls.spliced_cons (lam_laid I B hcode hmT hu hT hdef (L.has I.ok) fun f c' pm' ctv H1 s' J M => Calls.spliced_nil ⟨J.kIn, ?_⟩)
  have run : codeAny (model X.prog X.w) X.A (.call (.ref g) ⟨[.ref f], []⟩) (CR C8.CX0 X.stack X.prog X.w H1 s' Q C8.E0) s' :=
    LamX.run_ofS (N := Ng) (ps := [a]) (us := [.ref f]) (vs := [.ref f]) lk hcg Sg hr J.env0 (hb s' [.ref f] J.kIn rfl) (.cons rfl .nil) rfl fun hr' => by
      obtain ⟨t', h1, h2⟩ := hG f c' s' H1 Q (fun E H' Q' => t E σ H' Q') (fun W pn xe E p1 p2 tk hW => LamX.pe_act (i := 0) J L M.obj M.free M.nofr (hbind _ _ _ _ _) tk hW hr' (fun A outer s H hr2 => hbody A outer s H E f c' hr2) hNg hva hd hcd) M.code (h H1 M.ext M.tabs M.oth)
      exact ⟨t', h1.nox, h2⟩
  refine wpAny_call (codeAny_mono run fun r s2 hq => ?_)
  match r, hq with
  | .ok (.ret u), hq => exact J.after hq
  | .ok .next, hq => exact hq.elim
  | .ok .brk, hq => exact hq.elim
  | .ok .cont, hq => exact hq.elim
  | .error e, hq => exact (show False from hq).elim
structure Told (X : Cx) (x : Str) (l : Cls_) : Prop where
  ex : ∃ (a : Str) (g : Addr) (pg : Arguments) (bg : List Stmt) (sg : Scope) (dV kV doc pm cdv ct oc : Value) (an od : Option Addr) (osl : Array (Option Value)) (Ng : List Str),
    X.mg x = some (.ref g) ∧ PySem.W.keepIn X.K (.ref g) = true ∧ X.K.lookup g = some ⟨oc, od, .func (PySem.W.fnOf x x pg bg sg dV kV doc pm an cdv ct), osl⟩ ∧ PySem.W.codeIn X.K cdv x = true ∧
    L2.Binds X.K (PySem.W.fnOf x x pg bg sg dV kV doc pm an cdv ct) [a] [] ∧ FnScope Ng [a] sg ∧ Ng[0]? = some a ∧ Vis sg a ∧ (a == ("__debug__" : Str)) = false ∧ (a == ("__classdict__" : Str)) = false ∧
    ∀ q, LamX.GivesTo X Ng x sg g cdv bg a q (TTm X.K l)
structure Tbl (X : Cx) (T : Tb) (q : Tk) : Prop where
  ex : ∃ c P, LamX.TabB X.base X.mg c P ∧ X.env.code = .ref c ∧ (P, q) ∈ T ∧ ∀ p ∈ T, p.1 = P → p.2 = q
abbrev lamY (Y : DX) (k : Nat) (A : Around) (outer : List Env) (s1 : Shared) (Hc : Hp) (E : XK) (scope : Scope) (f c' : Addr) (H F : Hp) (gs : Gs) (ex : Exc → DSt → Prop) : DX :=
  ⟨LamX.lamCx Y.X A outer s1 Hc E scope f c', Y.T, k, H, F, ads gs, ex⟩
section
variable {Y : DX} {s : DSt} {e : Expr} {pos p lpos : Pos} {Q : Pv → DSt → Prop}
theorem ev_told {x : Str} {l : Cls_} {params : Arguments} {body : Expr} {scope : Scope} {k : Nat} (G : Told Y.X x l) (tb : Tbl Y.X Y.T (.plain (Y.X.env.qual ++ "<lambda>"))) (ok : YOk Y) (hk : k + 2 ≤ Y.k) (hg : Gl Y.X x) (L : LamX.LamS Y.X.env.scope scope)
    (h : ∀ (A : Around) (outer : List Env) (s1 : Shared) (Hc : Hp) (E : XK) (f c' : Addr) (H F : Hp), let Y' := lamY Y k A outer s1 Hc E scope f c' H F s.gs fun e s' => ∃ t, Tell Y.X.K l e.C t ∧ Q (pu t) ⟨s.ρ, s'.gs⟩
      YOk Y' → Ev Y' s body fun A s' => Q A ⟨s.ρ, s'.gs⟩)
    (hdef : defaultsOf params Y.X.env = ([], []) := by rfl) (hbind : ∀ (q : Str) (cl : List (Str × Addr)) (pm cv ctv : Value), bindArgs (PySem.W.kla_fn "<lambda>" q params body scope cl pm cv ctv) ⟨[], []⟩ = pure [] := by intros; rfl)
    (hdb : (x == ("__debug__" : Str)) = false := by decide) : Ev Y s (.Call (.Name x p) [.Lambda params body scope lpos] [] pos) Q := fun F0 σ H F e0 S => by
  obtain ⟨a, g, pg, bg, sg, dV, kV, doc, pm, cdv, ct, oc, an, od, osl, Ng, g1, g2, g3, g4, g5, g6, g7, g8, g9, g10, g11⟩ := G.ex
  obtain ⟨c, P, b1, b2, b3, b4⟩ := tb.ex
  refine .of (pe_lamO (k := k) (t := fun E σ H1 Q1 => ∀ (A : Around) (outer : List Env) (s1 : Shared) (Hc : Hp) (f c' : Addr), Room k (A.deeper (LamX.lamEnv Y.X scope s1.heap.objs.size f c')) → WE (LamX.lamCx Y.X A outer s1 Hc E scope f c') body σ H1 Q1)
    hg g1 g2 g3 g4 g5 g6 g7 g8 (g11 _) b1 b2 (plainT_mem.mpr b3) (fun p hp e => by have h9 := b4 (p.1, .plain p.2) (plainT_mem.mp hp) e; injection h9) (ok.room.mono hk) L hdef hbind (fun A outer s1 Hc E f c' hr => ⟨fun pins s2 σ2 H2 Q2 I q => (q A outer s1 Hc f c' hr).run pins s2 I⟩) hdb g9 g10) ⟨S.tb.tabs, fun H1 eN t1 ot => ?_⟩
  have S1 := S.extN eN t1 fun b ps hn e => ot b ps (fun z => by rcases hn with ⟨_, hn⟩ | ⟨_, _, hn⟩ <;> (have h9 := b4 _ hn z; cases h9)) e
  show ∀ (A : Around) (outer : List Env) (s1 : Shared) (Hc : Hp) (f c' : Addr), Room k (A.deeper (LamX.lamEnv Y.X scope s1.heap.objs.size f c')) → WE (LamX.lamCx Y.X A outer s1 Hc _ scope f c') body σ H1 _
  intro A outer s1 Hc f c' hr
  have back : ∀ {s' : DSt} {σ' : St} {H' F' : Hp}, Sta (lamY Y k A outer s1 Hc (fun cls _ H' => Chn Y.X.K l cls H' (Po Y σ F0 Q)) scope f c' H1 F s.gs fun e s' => ∃ t, Tell Y.X.K l e.C t ∧ Q (pu t) ⟨s.ρ, s'.gs⟩) s' σ' H' F' → Sta Y ⟨s.ρ, s'.gs⟩ σ H' F' := fun {s' σ' H' F'} S' => by
    have := S1.called (gs1 := s.gs) (gs2 := []) (gs1' := s'.gs) (by rw [List.append_nil]) S'.stg S'.st
    rwa [List.append_nil] at this
  have tk0 : Takes (LamX.lamCx Y.X A outer s1 Hc (fun cls _ H' => Chn Y.X.K l cls H' (Po Y σ F0 Q)) scope f c') (fun cls d _ H' => Chn Y.X.K l cls H' (Po Y σ F0 Q)) := takes_of rfl rfl rfl rfl
  have ok' : YOk (lamY Y k A outer s1 Hc (fun cls _ H' => Chn Y.X.K l cls H' (Po Y σ F0 Q)) scope f c' H1 F s.gs fun e s' => ∃ t, Tell Y.X.K l e.C t ∧ Q (pu t) ⟨s.ρ, s'.gs⟩) :=
    ⟨rfl, ok.nd, hr, passes_of rfl, tk0.imp fun cls d σ' H' ⟨e, s', F', S', er, t, ht, q⟩ => by
      obtain ⟨ec, _⟩ := er
      subst ec
      refine tell_chn ht ⟨pu t, ⟨s.ρ, s'.gs⟩, F', e0.trans S'.st.ff, rfl, back S', q⟩⟩
  refine (h A outer s1 Hc _ f c' H1 F ok' F σ H1 F (.refl _) ⟨S1.ext, S1.ntb, S1.rep, S1.own, S1.nd, S1.tb, Step.refl⟩).mono fun v H' ⟨A', s', F', e1, r, S', q⟩ => ?_
  exact ⟨A', ⟨s.ρ, s'.gs⟩, F', e0.trans e1, r, back S', q⟩
end
end Sp
set_option maxHeartbeats 4000000
namespace Sp
open PySem L2
open PySem.W (Datum DatumOrd SomeDatum)
structure GenOk (N : List Str) (sc scope : Scope) (vs : List Nat) : Prop where
  kind : scope.kind = .function
  co : scope.isCoroutine = false
  nd : (scope.names.map (·.1)).Nodup
  dot : scope.names.lookup (".0" : Str) = some NameKind.local
  free : ∀ y ∈ scope.names, y.2 = .free → sc.names.lookup y.1 = some .cell ∨ sc.names.lookup y.1 = some .free
  own : ∀ (i : Nat) (y : Str), N[i]? = some y → scope.names.lookup y = some NameKind.local ∨ scope.names.lookup y = some NameKind.cell → i ∈ vs
def genOkB (N : List Str) (sc scope : Scope) (vs : List Nat) : Bool :=
  decide (scope.kind = .function) && !scope.isCoroutine && (scope.names.all fun y => !decide (y.2 = .free) || decide (sc.names.lookup y.1 = some .cell) || decide (sc.names.lookup y.1 = some .free)) &&
    decide (scope.names.lookup (".0" : Str) = some NameKind.local) && ((List.range N.length).all fun i => decide (i ∈ vs) || (!decide (scope.names.lookup (N.getD i "") = some NameKind.local) && !decide (scope.names.lookup (N.getD i "") = some NameKind.cell))) && decide (scope.names.map (·.1)).Nodup
theorem genOk_by {N : List Str} {sc scope : Scope} {vs : List Nat} (h : genOkB N sc scope vs = true) : GenOk N sc scope vs := by
  unfold genOkB at h
  simp only [Bool.and_eq_true, Bool.or_eq_true, Bool.not_eq_true', decide_eq_true_eq, decide_eq_false_iff_not, List.all_eq_true] at h
  obtain ⟨⟨⟨⟨⟨h1, h2⟩, h3⟩, h4⟩, h5⟩, h6⟩ := h
  refine ⟨h1, h2, h6, h4, fun y hy e => ?_, fun i y hi hl => ?_⟩
  · rcases h3 y hy with (z | z) | z
    · exact absurd e z
    · exact .inl z
    · exact .inr z
  · obtain ⟨hl', e⟩ := List.getElem?_eq_some_iff.mp hi
    rcases h5 i (List.mem_range.mpr hl') with z | z
    · exact z
    · rw [List.getD_eq_getElem?_getD, hi] at z
      rcases hl with hl | hl
      · exact absurd hl z.1
      · exact absurd hl z.2
theorem cellsFrom_app : ∀ (l : List (Str × NameKind)) (n : Nat) (acc : List (Str × Addr)), cellsFrom n l acc = cellsFrom n l [] ++ acc
  | [], _, _ => rfl
  | (x, k) :: r, n, acc => by
    unfold cellsFrom
    by_cases h : (k == NameKind.cell) = true
    · rw [if_pos h, if_pos h, cellsFrom_app r (n + 1) ((x, n) :: acc), cellsFrom_app r (n + 1) [(x, n)], List.append_assoc]
      rfl
    · rw [if_neg h, if_neg h]
      exact cellsFrom_app r n acc
theorem cellsFrom_mem : ∀ (l : List (Str × NameKind)) (n : Nat) {y : Str} {c : Addr}, (y, c) ∈ cellsFrom n l [] → (y, NameKind.cell) ∈ l
  | [], _, _, _, h => by cases h
  | (x, k) :: r, n, y, c, h => by
    unfold cellsFrom at h
    by_cases e : (k == NameKind.cell) = true
    · rw [if_pos e, cellsFrom_app, List.mem_append] at h
      rcases h with h | h
      · exact List.mem_cons_of_mem _ (cellsFrom_mem r (n + 1) h)
      · cases List.mem_singleton.mp h
        rw [show k = NameKind.cell from eq_of_beq e]
        exact List.mem_cons_self
    · rw [if_neg e] at h
      exact List.mem_cons_of_mem _ (cellsFrom_mem r n h)
theorem cellsFrom_has : ∀ (l : List (Str × NameKind)) (n : Nat) {y : Str}, (y, NameKind.cell) ∈ l → ∃ c, (y, c) ∈ cellsFrom n l []
  | (x, k) :: r, n, y, h => by
    unfold cellsFrom
    by_cases e : (k == NameKind.cell) = true
    · rw [if_pos e, cellsFrom_app]
      rcases List.mem_cons.mp h with h | h
      · cases h
        exact ⟨n, List.mem_append_right _ (List.mem_singleton.mpr rfl)⟩
      · obtain ⟨c, hc⟩ := cellsFrom_has r (n + 1) h
        exact ⟨c, List.mem_append_left _ hc⟩
    · rw [if_neg e]
      rcases List.mem_cons.mp h with h | h
      · cases h
        exact absurd rfl e
      · exact cellsFrom_has r n h
theorem lookup_app {α : Type} (y : Str) : ∀ (l m : List (Str × α)), (l ++ m).lookup y = (l.lookup y).or (m.lookup y)
  | [], m => by simp
  | (x, a) :: l, m => by
    rw [List.cons_append, List.lookup_cons, List.lookup_cons]
    cases y == x with
    | true => rfl
    | false => exact lookup_app y l m
theorem nd_kind : ∀ {l : List (Str × NameKind)}, (l.map (·.1)).Nodup → ∀ {y : Str} {k k' : NameKind}, (y, k) ∈ l → (y, k') ∈ l → k = k'
  | p :: l, n, y, k, k', h, h' => by
    rw [List.map_cons, List.nodup_cons] at n
    rcases List.mem_cons.mp h with h1 | h1
    · rcases List.mem_cons.mp h' with h2 | h2
      · rw [← h1] at h2; injection h2 with _ e; exact e.symm
      · exact absurd (show p.1 ∈ l.map (·.1) by rw [← h1]; exact List.mem_map.mpr ⟨(y, k'), h2, rfl⟩) n.1
    · rcases List.mem_cons.mp h' with h2 | h2
      · exact absurd (show p.1 ∈ l.map (·.1) by rw [← h2]; exact List.mem_map.mpr ⟨(y, k), h1, rfl⟩) n.1
      · exact nd_kind n.2 h1 h2
def genCx (X : Cx) (A : Around) (env : Env) (s : Shared) (H : Hp) (fp : List Addr) : Cx where
  prog := X.prog
  w := X.w
  K := X.K
  mg := X.mg
  base := X.base
  A := A
  N := X.N
  s_0 := s
  H_0 := H
  env := env
  outer := X.stack
  stack := env :: X.stack
  ex := fp
  fn := fun y => decide (env.scope.names.lookup y = some NameKind.cell)
  calm := true
  pn := []
  xe := fun _ _ => False
abbrev genCl (cells : List (Str × Addr)) (scope : Scope) (C : Addr) : List (Str × Addr) := cellsFrom (C + 1) scope.names (cloFrom cells scope.names [])
section
variable {X : Cx} {pins : List (Addr × Obj)} {σ : St} {H : Hp} {s : Shared}
theorem genCl_cases {scope : Scope} {vs : List Nat} {C : Addr} (ok : X.Ok) (G : GenOk X.N X.env.scope scope vs) {y : Str} {c : Addr} (e : (genCl X.env.cells scope C).lookup y = some c) :
    ((y, c) ∈ cellsFrom (C + 1) scope.names [] ∧ (y, NameKind.cell) ∈ scope.names) ∨ (X.env.cells.lookup y = some c ∧ (y, NameKind.free) ∈ scope.names) := by
  unfold genCl at e
  rw [cellsFrom_app, lookup_app] at e
  cases h : (cellsFrom (C + 1) scope.names []).lookup y with
  | some d =>
    rw [h] at e
    have e' : d = c := Option.some.inj e
    subst e'
    have hm := PySem.mem_of_lookup h
    exact .inl ⟨hm, cellsFrom_mem _ _ hm⟩
  | none =>
    rw [h] at e
    have e' : (cloFrom X.env.cells scope.names []).lookup y = some c := e
    rcases cloFrom_mem (PySem.mem_of_lookup e') with hm | ⟨h1, h2⟩
    · cases hm
    · have hf : ∃ c, X.env.cells.lookup y = some c := by
        rcases G.free _ h1 rfl with k | k
        · exact ok.has _ (.inl k)
        · exact ok.has _ (.inr k)
      obtain ⟨c1, hc⟩ := hf
      exact .inr ⟨by rw [hc, show c = c1 by rw [h2, hc] <;> rfl], h1⟩
theorem genCl_free {scope : Scope} {vs : List Nat} {C : Addr} (G : GenOk X.N X.env.scope scope vs) {y : Str} (hy : (y, NameKind.free) ∈ scope.names) : (genCl X.env.cells scope C).lookup y = (cloFrom X.env.cells scope.names []).lookup y := by
  unfold genCl
  rw [cellsFrom_app, lookup_app]
  cases h : (cellsFrom (C + 1) scope.names []).lookup y with
  | some d => cases nd_kind G.nd hy (cellsFrom_mem _ _ (PySem.mem_of_lookup h))
  | none => rfl
theorem gen_start {A : Around} {scope : Scope} {vs : List Nat} {code : Value} {fp : List Addr} {h' : Heap} {g' : Array GenState} {tk : Nat} {m0 : Str → Option Value} (I : Inv X pins σ H s) (G : GenOk X.N X.env.scope scope vs) (hA : A.frames = some (genEnv scope (genCl X.env.cells scope s.heap.objs.size) s.heap.objs.size code builtinsNs X.env :: X.stack)) (hd : A.handled = none)
    (hfp : ∀ b ∈ fp, FpOk X pins H b ∧ b < s.heap.objs.size) (hn : h'.Ns s.heap.objs.size m0) (ce : CellsOk h' (s.heap.objs.size + 1) (cellsFrom (s.heap.objs.size + 1) scope.names [])) (kp : ∀ b o, s.heap.get? b = some o → h'.get? b = some o) (hg : PyProof.Rows.AllBare g') :
    Inv (genCx X A (genEnv scope (genCl X.env.cells scope s.heap.objs.size) s.heap.objs.size code builtinsNs X.env) s H fp) [] (L2.wipe σ vs) H { s with heap := h', gens := g', toks := tk } := by
  have cm : ∀ {y c}, (genCl X.env.cells scope s.heap.objs.size).lookup y = some c → ((y, c) ∈ cellsFrom (s.heap.objs.size + 1) scope.names [] ∧ (y, NameKind.cell) ∈ scope.names) ∨ (X.env.cells.lookup y = some c ∧ (y, NameKind.free) ∈ scope.names) := fun {y c} e => genCl_cases I.ok G e
  have newc : ∀ {y c}, (y, c) ∈ cellsFrom (s.heap.objs.size + 1) scope.names [] → s.heap.objs.size < c := fun {y c} h => (ce.empty y c h).2
  have oldc : ∀ {y c}, X.env.cells.lookup y = some c → c < s.heap.objs.size := fun {y c} h => by
    obtain ⟨v, hv⟩ := I.cell y c h
    exact hv.lt
  have look : ∀ {y}, scope.names.lookup y = some .free → ∃ c, (genCl X.env.cells scope s.heap.objs.size).lookup y = some c := fun {y} hl => by
    have hm := PySem.mem_of_lookup hl
    rw [genCl_free G hm]
    exact mem_lookup (cloFrom_has (cells := X.env.cells) (acc := []) hm)
  have isc : ∀ {c : Addr} {v : Option Value}, s.heap.IsCell c v → h'.IsCell c v := fun {c v} ⟨o, ho, hd⟩ => ⟨o, kp _ _ ho, hd⟩
  refine ⟨⟨I.ok.mod, G.kind, I.ok.glob, rfl, Nat.le_refl _, fun y z c e1 e2 => ?_, fun y hy => ?_, fun y c z e => ?_, fun _ => hd, hA, .inr ⟨rfl, rfl⟩, fun b hb => ⟨?_, fun y c e z => ?_⟩, I.bs, Nat.le_trans I.ok.bsz I.sz, fun b o e hb => ?_, fun b hb z => ?_, I.stack, I.stkFree⟩,
    rfl, hg, Un.kept kp, ⟨m0, hn, fun i y v e1 e2 e3 => ?_⟩, fun y c e => ?_, I.hok.fresh (Nat.le_refl _), fun y c e => ?_, fun q hq => absurd (show q ∈ ([] : List (Addr × Obj)) ++ [] from hq) (by simp), I.hok.kept kp, by rw [wipe_length]; exact I.len⟩
  · rcases cm e1 with ⟨a1, _⟩ | ⟨a1, _⟩
    · rcases cm e2 with ⟨a2, _⟩ | ⟨a2, _⟩
      · exact PySem.name_of_addr ce.apart a1 a2
      · exact absurd (Nat.lt_trans (newc a1) (oldc a2)) (Nat.lt_irrefl _)
    · rcases cm e2 with ⟨a2, _⟩ | ⟨a2, _⟩
      · exact absurd (Nat.lt_trans (newc a2) (oldc a1)) (Nat.lt_irrefl _)
      · exact I.ok.inj y z c a1 a2
  · have hy : scope.names.lookup y = some .cell ∨ scope.names.lookup y = some .free := hy
    rcases hy with hy | hy
    · obtain ⟨c, hc⟩ := cellsFrom_has scope.names (s.heap.objs.size + 1) (PySem.mem_of_lookup hy)
      have hm : (y, c) ∈ genCl X.env.cells scope s.heap.objs.size := by
        unfold genCl
        rw [cellsFrom_app]
        exact List.mem_append_left _ hc
      exact mem_lookup hm
    · exact look hy
  · have z : scope.names.lookup y = some NameKind.cell := of_decide_eq_true z
    rcases cm e with ⟨a1, _⟩ | ⟨_, a2⟩
    · exact Nat.le_of_lt (newc a1)
    · cases nd_kind G.nd (PySem.mem_of_lookup z) a2
  · exact Nat.ne_of_lt (hfp b hb).2
  · rcases cm e with ⟨a1, _⟩ | ⟨a1, _⟩
    · rw [z] at a1
      exact absurd (Nat.lt_trans (newc a1) (hfp b hb).2) (Nat.lt_irrefl _)
    · exact (hfp b hb).1.2.2.2.2.1 y c a1 z
  · obtain ⟨_, _, _, q, _⟩ := (hfp b hb).1
    rcases q with q | q
    · exact I.ok.noex b o e q
    · exact absurd (Nat.lt_of_lt_of_le (Heap.lt_size e) (Nat.le_trans I.ok.bsz q)) (Nat.lt_irrefl _)
  · rcases List.mem_cons.mp (I.stkSub b z) with q | q
    · exact (hfp b hb).1.2.1 q
    · exact (hfp b hb).1.2.2.1 q
  · have e3 : Vis scope y := e3
    obtain ⟨w1, w2⟩ := wipe_some e2
    rcases e3 with k | k | k
    · exact absurd (G.own i y e1 (.inl k)) w2
    · exact absurd (G.own i y e1 (.inr k)) w2
    · obtain ⟨m, hn', hl⟩ := I.loc
      have hvis : Vis X.env.scope y := (G.free _ (PySem.mem_of_lookup k) rfl).elim (fun k => .inr (.inl k)) (fun k => .inr (.inr k))
      obtain ⟨w', r, q⟩ := hl i y v e1 w1 hvis
      obtain ⟨c2, h2⟩ := look k
      refine ⟨w', r, .inr ⟨.inr k, c2, h2, ?_⟩⟩
      rcases q with ⟨k', _⟩ | ⟨_, c3, e', z⟩
      · have k' : X.env.scope.names.lookup y = some .local := k'
        rcases G.free _ (PySem.mem_of_lookup k) rfl with k2 | k2 <;> rw [show X.env.scope.names.lookup y = _ from k2] at k' <;> cases k'
      · rcases cm h2 with ⟨_, a2⟩ | ⟨a1, _⟩
        · cases nd_kind G.nd (PySem.mem_of_lookup k) a2
        · rw [a1] at e'
          cases e'
          exact isc z
  · rcases cm e with ⟨a1, _⟩ | ⟨a1, _⟩
    · exact ⟨none, (ce.empty y c a1).1⟩
    · obtain ⟨w', z⟩ := I.cell y c a1
      exact ⟨w', isc z⟩
  · rcases cm e with ⟨a1, _⟩ | ⟨a1, _⟩
    · exact I.hok.fresh (Nat.le_of_lt (newc a1))
    · exact I.freeC y c a1
end
structure GCx where
  A : Around
  C : Addr
  code : Addr
  s : Shared
  H : Hp
  fp : List Addr
abbrev genE (Y : DX) (scope : Scope) (z : GCx) : Env := genEnv scope (genCl Y.X.env.cells scope z.C) z.C (.ref z.code) builtinsNs Y.X.env
abbrev genX (Y : DX) (scope : Scope) (z : GCx) : Cx := genCx Y.X z.A (genE Y scope z) z.s z.H z.fp
abbrev Ow := GCx → Tb
abbrev noOw : Ow := fun _ => []
abbrev ownOw : Ow := fun z => [(z.code, .own)]
abbrev genYO (Y : DX) (k : Nat) (scope : Scope) (ow : Ow) (z : GCx) : DX := ⟨genX Y scope z, ow z ++ Y.T, k, Y.H0, Y.F0, Y.S0, fun _ _ => False⟩
abbrev genY (Y : DX) (k : Nat) (scope : Scope) (z : GCx) : DX := genYO Y k scope noOw z
structure StaO (Y : DX) (ow : Ow) (z : GCx) (s : DSt) (σ : St) (H F : Hp) : Prop where
  s : Sta Y s σ H F
  o : TbOk (ow z) H
section
variable {Y : DX} {k : Nat} {scope : Scope} {ow : Ow} {z : GCx} {s : DSt} {σ : St} {H F : Hp}
theorem TbOk.app {T T' : Tb} {H : Hp} : TbOk (T ++ T') H ↔ TbOk T H ∧ TbOk T' H := by
  unfold TbOk
  exact List.forall_mem_append
theorem StaO.gen (S : StaO Y ow z s σ H F) : Sta (genYO Y k scope ow z) s σ H F := ⟨S.s.ext, S.s.ntb, S.s.rep, S.s.own, S.s.nd, TbOk.app.mpr ⟨S.o, S.s.tb⟩, S.s.st⟩
theorem Sta.ungen (S : Sta (genYO Y k scope ow z) s σ H F) : StaO Y ow z s σ H F := ⟨⟨S.ext, S.ntb, S.rep, S.own, S.nd, (TbOk.app.mp S.tb).2, S.st⟩, (TbOk.app.mp S.tb).1⟩
theorem YOk.gen (ok : YOk Y) (hr : Room k z.A) : YOk (genYO Y k scope ow z) :=
  ⟨rfl, ok.nd, hr, PassesOwn.never, fun _ _ ⟨_, _, _, _, _, _, _, _, _, _, _, _, _, _, _, _, _, _, _, _, _, q⟩ => q.elim⟩
class FlatE (α : Type) [Enc α] [FlatV α] : Prop where
  of : ∀ {K : Frag} {F : Hp} {v : V} {a : α}, Enc.rep K F v a → v = FlatV.z a
instance : FlatE Int := ⟨fun h => h⟩
instance : FlatE Bool := ⟨fun h => h⟩
structure GTurns {β γ : Type} [Enc β] [Enc γ] (Y : DX) (k : Nat) (s : DSt) (scope : Scope) (ow : Ow) (vs : List Nat) (tg elt : Expr) (ifs : List Expr) (g : TG) (ws : List Nat) (f : β → Rho → Rho) (items : List β) (c : β → Bool) (h : β → γ) : Prop where
  tg : ∀ z, TgOk (genYO Y k scope ow z) tg g ws f
  sub : ∀ j ∈ ws, j ∈ vs
  test : ∀ z, YOk (genYO Y k scope ow z) → ∀ x ∈ items, Ets (genYO Y k scope ow z) ⟨f x (wipeR s.ρ vs), s.gs⟩ ifs fun b s2 => b = c x ∧ s2 = ⟨f x (wipeR s.ρ vs), s.gs⟩
  elt : ∀ z, YOk (genYO Y k scope ow z) → ∀ x ∈ items, c x = true → EvP (genYO Y k scope ow z) ⟨f x (wipeR s.ρ vs), s.gs⟩ elt (pu (h x))
def GE (Y : DX) (scope : Scope) (ow : Ow) (z : GCx) (vs : List Nat) (s : DSt) (σ : St) (F : Hp) (S : List Addr) (s1 : Shared) : Prop :=
  ∃ H' F', Inv (genX Y scope z) [] (L2.wipe σ vs) H' s1 ∧ (∀ b ∈ S, H' b = none) ∧ Ext F F' ∧ StaO Y ow z s σ H' F'
def GT (Y : DX) (scope : Scope) (ow : Ow) (z : GCx) (vs : List Nat) (s : DSt) (σ : St) (F : Hp) (tn : Nat → Heap → Prop) (S : List Addr) (i : Nat) (s1 : Shared) : Prop :=
  ∃ H' F', Inv (genX Y scope z) [] (L2.wipe σ vs) H' s1 ∧ tn i s1.heap ∧ (∀ b ∈ z.fp, H' b = none) ∧ (∀ b ∈ S, H' b = none) ∧ (∀ b ∈ S, ∃ o, s1.heap.get? b = some o ∧ ∀ v, o.data ≠ .cell v) ∧ Ext F F' ∧ StaO Y ow z s σ H' F'
def Aw (S : List Addr) (s s' : Shared) : Prop :=
  s'.os = s.os ∧ PyProof.Rows.AllBare s'.gens ∧ (∀ b o, b ∉ S → s.heap.get? b = some o → s'.heap.get? b = some o) ∧ ∀ b ∈ S, ∃ o, s'.heap.get? b = some o ∧ ∀ v, o.data ≠ .cell v
structure Ap (Y : DX) (scope : Scope) (z : GCx) (S : Addr) : Prop where
  big : z.s.heap.objs.size ≤ S
  loc : S ≠ z.C
  cell : ∀ x c, (genCl Y.X.env.cells scope z.C).lookup x = some c → c ≠ S
  fp : S ∉ z.fp
  fs : S ∉ frs Y.X.stack
theorem Ap.fpOk {S : Addr} {H' : Hp} (a : Ap Y scope z S) (h : H' S = none) : FpOk (genX Y scope z) [] H' S :=
  ⟨h, a.loc, a.fs, .inr a.big, a.cell, fun p hp => absurd (show p ∈ ([] : List (Addr × Obj)) ++ [] from hp) (by simp)⟩
theorem GE.aw {vs : List Nat} {S : List Addr} {s1 s2 : Shared} {H' : Hp} (a : ∀ b ∈ S, Ap Y scope z b) (hS : ∀ b ∈ S, H' b = none) (I : Inv (genX Y scope z) [] (L2.wipe σ vs) H' s1) (w : Aw S s1 s2) : Inv (genX Y scope z) [] (L2.wipe σ vs) H' s2 := by
  obtain ⟨w1, w2, w3, w4⟩ := w
  obtain ⟨hh, g, d, t, o⟩ := s2
  have ho : o = s1.os := w1
  subst ho
  have nS : ∀ b u, H' b = some u → b ∉ S := fun b u e q => by rw [hS b q] at e; cases e
  refine I.step (g' := g) (t' := t) (d' := d) (ch := S) (fun b hb => ?_) (fun b ob _ _ hc q _ => w3 b ob hc q) (fun b ob _ _ hc q _ => ⟨ob.slots, w3 b ob hc q⟩) (fun _ _ _ _ n => n) (fun b ob hc q => ⟨ob, w3 b ob hc q⟩)
    (fun _ _ q => q) (fun _ _ _ q => q) (fun b ps q => ⟨#[], by rw [q]; simp⟩) (fun m hm => ?_) (fun b u q => ?_) w2
  · have ab := a b hb
    exact ⟨.inr ab.big, ab.loc, ab.cell, fun p hp => absurd (show p ∈ ([] : List (Addr × Obj)) ++ [] from hp) (by simp)⟩
  · obtain ⟨ob, es, ep, hob, r⟩ := hm
    exact ⟨ob, es, ep, w3 _ ob (fun q => (a _ q).loc rfl) hob, r⟩
  · refine (I.hok b u q).stay (fun c v hc y => w3 c v ?_ y) (fun _ y => y) fun _ _ y => y
    rcases hc with y | y
    · rw [y]; exact nS b u q
    · exact nS c _ y
theorem GT.aw {vs : List Nat} {tn : Nat → Heap → Prop} {S : List Addr} {i : Nat} {s1 s2 : Shared} {tg : Expr} {J : It} {it : Addr} (T : Turn Y.X.prog Y.X.w Y.X.K tg J z.fp it tn) (a : ∀ b ∈ S, Ap Y scope z b) (h : GT Y scope ow z vs s σ F tn S i s1) (w : Aw S s1 s2) : GT Y scope ow z vs s σ F tn S i s2 := by
  obtain ⟨H', F', I, t1, n1, hS, _, e1, S1⟩ := h
  exact ⟨H', F', GE.aw a hS I w, T.keep i _ _ t1 fun b hb o e => w.2.2.1 b o (fun q => (a b q).fp hb) e, n1, hS, w.2.2.2, e1, S1⟩
theorem GT.ge {vs : List Nat} {tn : Nat → Heap → Prop} {S : List Addr} {i : Nat} {s1 : Shared} (h : GT Y scope ow z vs s σ F tn S i s1) : GE Y scope ow z vs s σ F S s1 := by
  obtain ⟨H', F', I, _, _, hS, _, e1, S1⟩ := h
  exact ⟨H', F', I, hS, e1, S1⟩
end
def GP {γ : Type} [Enc γ] [FlatV γ] (Y : DX) (scope : Scope) (ow : Ow) (z : GCx) (vs : List Nat) (s : DSt) (σ : St) (F : Hp) (S : List Addr) (ys : List γ) : Protocol := fun n s0 v s1 kap =>
  ∃ y, ys[ys.length - 1 - n]? = some y ∧ RelV (FlatV.z y) v ∧ GE Y scope ow z vs s σ F S s1 ∧ (∀ b ∈ S, ∀ o, s0.heap.get? b = some o → s1.heap.get? b = some o) ∧ ∀ s2, Aw S s1 s2 → kap (.send .none) s2
section
variable {Y : DX} {k : Nat} {scope : Scope} {ow : Ow} {z : GCx} {s : DSt} {σ : St} {H F : Hp} {β γ : Type} [Enc β] [Enc γ] [FlatV γ] [FlatE γ]
theorem drop_at {α : Type} {l : List α} {i : Nat} {x : α} (h : l[i]? = some x) : l.drop i = x :: l.drop (i + 1) := by
  obtain ⟨hl, e⟩ := List.getElem?_eq_some_iff.mp h
  rw [List.drop_eq_getElem_cons hl, e]
theorem rest_at {items : List β} {c : β → Bool} {h : β → γ} {i : Nat} {x : β} (hx : items[i]? = some x) (hc : c x = true) :
    ((items.filter c).map h)[((items.filter c).map h).length - 1 - ((items.drop (i + 1)).filter c).length]? = some (h x) := by
  have e : items.filter c = (items.take i).filter c ++ x :: (items.drop (i + 1)).filter c := by
    rw [← List.filter_cons_of_pos hc, ← drop_at hx, ← List.filter_append, List.take_append_drop]
  rw [e, List.map_append, List.length_append, List.map_cons, List.length_cons, List.length_map, List.length_map]
  have : ((items.take i).filter c).length + (((items.drop (i + 1)).filter c).length + 1) - 1 - ((items.drop (i + 1)).filter c).length = ((items.take i).filter c).length := by omega
  rw [this, List.getElem?_append_right (by rw [List.length_map]; exact Nat.le_refl _), List.length_map, Nat.sub_self]
  rfl
theorem seg_gen {A : Around} {vs ws : List Nat} {tg elt iter : Expr} {ifs : List Expr} {g : TG} {f : β → Rho → Rho} {items : List β} {c : β → Bool} {h : β → γ} {tn : Nat → Heap → Prop} {S : List Addr} {it : Addr} {J : It} {gpos : Pos} {F0 : Hp} (L : GTurns Y k s scope ow vs tg elt ifs g ws f items c h) (ok : YOk (genYO Y k scope ow z)) (hco : scope.isCoroutine = false)
    (T : Turn Y.X.prog Y.X.w Y.X.K tg J z.fp it tn) (a : ∀ b ∈ S, Ap Y scope z b) (K1 : ItOk Y.X.K J F items) (hA : A.over (.compLoop (.GeneratorExp elt [⟨tg, iter, ifs, 0⟩] scope gpos) 0 (.ref it) .none (genE Y scope z)) [] = z.A) :
    ∀ (m i : Nat) (s₀ s1 : Shared), items.length - i = m → i ≤ items.length → GT Y scope ow z vs s σ F tn S i s1 → (∀ b ∈ S, ∀ o, s₀.heap.get? b = some o → s1.heap.get? b = some o) →
      Seg (model Y.X.prog Y.X.w) A (fun n s0 r s2 => r = .ok .next ∧ (n = 0 ∧ GE Y scope ow z vs s σ F S s2 ∧ ∀ b ∈ S, ∀ o, s0.heap.get? b = some o → s2.heap.get? b = some o)) (GP Y scope ow z vs s σ F S ((items.filter c).map h)) (((items.drop i).filter c).length) s₀
        (.compLoop (.GeneratorExp elt [⟨tg, iter, ifs, 0⟩] scope gpos) 0 (.ref it) .none (genE Y scope z))
        ((model Y.X.prog Y.X.w).den (.compLoop (.GeneratorExp elt [⟨tg, iter, ifs, 0⟩] scope gpos) 0 (.ref it) .none (genE Y scope z))) [] s1 := by
  intro m
  induction m with
  | zero =>
    intro i s₀ s1 hk hi gt hsk
    have hin : i = items.length := by omega
    subst hin
    obtain ⟨H', F', I, t1, n1, hS, oS, e1, S1⟩ := gt
    show Seg _ A _ _ _ s₀ _ ((compTurn (.GeneratorExp elt [⟨tg, iter, ifs, 0⟩] scope gpos) 0 (.ref it) .none (genE Y scope z)).onRaise (leaving (genE Y scope z))) [] s1
    rw [compTurn_gen, Sem.onRaise_eq_wrap]
    refine seg_bind_wrap (wpAny_standAt ?_)
    refine seg_bind_wrap ?_
    rw [hA]
    have fk : ∀ b ∈ z.fp, FpOk (genX Y scope z) [] H' b := fun b hb => ⟨n1 b hb, (I.ok.exf b hb).1, I.ok.exfs b hb, .inl hb, fun x c e => (I.ok.exf b hb).2 x c e, fun p hp => absurd (show p ∈ ([] : List (Addr × Obj)) ++ [] from hp) (by simp)⟩
    have I0 := I.pinned (fp := S) (fun b hb => (a b hb).fpOk (hS b hb)) oS
    have fk0 : ∀ b ∈ z.fp, FpOk (genX Y scope z) ([] ++ pinsAt S s1.heap) H' b := fun b hb => ⟨n1 b hb, (fk b hb).2.1, (fk b hb).2.2.1, (fk b hb).2.2.2.1, (fk b hb).2.2.2.2.1, fun p hp e => (a b (e ▸ (of_pinsAt (fp := S) (h := s1.heap) (p := p) (by simpa using (show p ∈ ([] : List (Addr × Obj)) ++ ([] ++ pinsAt S s1.heap) from hp))).1)).fp hb⟩
    refine wpAny_mono (T.done (genX Y scope z) rfl rfl rfl rfl _ _ s1 _ H' (fun _ _ => False) I0 fk0 t1 ((K1 _ H' F' e1 S1.s.ext).2 (Nat.le_refl _))) (fun r s2 ⟨hr, I2⟩ => ?_) fun _ _ e => e.elim
    subst hr
    rw [List.drop_length]
    exact seg_end (.ok .next) ⟨rfl, rfl, ⟨H', F', I2.unpinned (pins := []), hS, e1, S1⟩, fun b hb o e => (I2.pin (b, o) (List.mem_append_right _ (List.mem_append_right _ (mem_pinsAt hb (hsk b hb o e))))).1⟩
  | succ m ih =>
    intro i s₀ s1 hk hi gt hsk
    have hlt : i < items.length := by omega
    obtain ⟨x, hx⟩ : ∃ x, items[i]? = some x := ⟨_, List.getElem?_eq_getElem hlt⟩
    have hmem := List.mem_of_getElem? hx
    obtain ⟨H', F', I, t1, n1, hS, oS, e1, S1⟩ := gt
    show Seg _ A _ _ _ s₀ _ ((compTurn (.GeneratorExp elt [⟨tg, iter, ifs, 0⟩] scope gpos) 0 (.ref it) .none (genE Y scope z)).onRaise (leaving (genE Y scope z))) [] s1
    rw [compTurn_gen, Sem.onRaise_eq_wrap]
    refine seg_bind_wrap (wpAny_standAt ?_)
    refine seg_bind_wrap ?_
    rw [hA]
    have I0 := I.pinned (fp := S) (fun b hb => (a b hb).fpOk (hS b hb)) oS
    have stat : ∀ {pn : List (Addr × Obj)} {σ' : St} {H2 : Hp} {s2 : Shared}, Inv (genX Y scope z) pn σ' H2 s2 → (∀ q ∈ pn, q.1 ∈ S) → (∀ b ∈ z.fp, H2 b = none) → ∀ b ∈ z.fp, FpOk (genX Y scope z) pn H2 b := fun {pn σ' H2 s2} I' hp hn b hb =>
      ⟨hn b hb, (I'.ok.exf b hb).1, I'.ok.exfs b hb, .inl hb, fun x c e => (I'.ok.exf b hb).2 x c e, fun q hq e => (a b (e ▸ hp q hq)).fp hb⟩
    have pS : ∀ q ∈ ([] : List (Addr × Obj)) ++ pinsAt S s1.heap, q.1 ∈ S := fun q hq => (of_pinsAt (by simpa using hq)).1
    refine wpAny_mono (T.item (genX Y scope z) rfl rfl rfl rfl i _ s1 _ H' (fun _ _ => False) I0 (stat I0 pS n1) t1 ((K1 i H' F' e1 S1.s.ext).1 x hx).1) (fun r s2 ⟨u, hr, h2⟩ => ?_) fun _ _ e => e.elim
    subst hr
    refine seg_bind_wrap ?_
    rw [hA]
    refine wpAny_mono h2 (fun _ s3 ⟨v, H3, I3, r3, y3, t3, n3⟩ => ?_) fun _ _ e => e.elim
    obtain ⟨F3, e3, S3', rx⟩ := ItOk.yld (Y := genYO Y k scope ow z) K1 e1 S1.gen hx y3
    have S3 := S3'.ungen
    have I3' := I3.pinned (stat I3 pS n3) (T.obj _ _ t3)
    refine seg_bind_wrap ?_
    rw [hA]
    refine wpAny_mono ((L.tg z).1.run _ s3 _ H3 v u _ I3' r3 ((L.tg z).2 (L2.wipe σ vs) H3 F3 v x ⟨wipeR s.ρ vs, s.gs⟩ (fun σ4 H4 => Sta (genYO Y k scope ow z) ⟨f x (wipeR s.ρ vs), s.gs⟩ σ4 H4 F3 ∧ Only ws (L2.wipe σ vs) σ4) ((StaO.mk (S3.s.wipe vs) S3.o).gen) rx fun σ4 S4 o4 => ⟨S4, o4⟩)) (fun _ s4 ⟨σ4, H4, I4, S4, o4⟩ => ?_) fun _ _ e => e.elim
    have hl4 : (L2.wipe σ vs).length = σ4.length := o4.1.symm
    have wk : ∀ (j : Nat) (w : V), (L2.wipe σ vs)[j]? = some (some w) → σ4[j]? = some (some w) := fun j w e => by
      rw [o4.2 j fun hj => (wipe_some e).2 (L.sub j hj)]
      exact e
    have fin : ∀ {s5 : Shared} {H5 F5 : Hp}, Inv (genX Y scope z) (([] ++ pinsAt S s1.heap) ++ pinsAt z.fp s3.heap) σ4 H5 s5 → Ext F3 F5 → Sta (genYO Y k scope ow z) ⟨f x (wipeR s.ρ vs), s.gs⟩ σ4 H5 F5 → GT Y scope ow z vs s σ F tn S (i + 1) s5 ∧ ∀ b ∈ S, ∀ o, s1.heap.get? b = some o → s5.heap.get? b = some o := fun {s5 H5 F5} I5 e5 S5 => by
      have pf : ∀ b ∈ z.fp, ∀ o, s3.heap.get? b = some o → s5.heap.get? b = some o ∧ H5 b = none := fun b hb o e =>
        let q := I5.pin (b, o) (List.mem_append_right _ (List.mem_append_right _ (mem_pinsAt hb e)))
        ⟨q.1, q.2.1⟩
      have qS : ∀ b ∈ S, ∀ o, s1.heap.get? b = some o → s5.heap.get? b = some o ∧ H5 b = none := fun b hb o e =>
        let q := I5.pin (b, o) (List.mem_append_right _ (List.mem_append_left _ (List.mem_append_right _ (mem_pinsAt hb e))))
        ⟨q.1, q.2.1⟩
      refine ⟨⟨H5, F5, ((I5.unpinned (pins := [] ++ pinsAt S s1.heap)).unpinned (pins := [])).weak hl4 wk, T.keep _ _ _ t3 fun b hb o e => (pf b hb o e).1, fun b hb => ?_, fun b hb => let ⟨o, e, _⟩ := oS b hb; (qS b hb o e).2, fun b hb => let ⟨o, e, hc⟩ := oS b hb; ⟨o, (qS b hb o e).1, hc⟩, (e1.trans e3).trans e5, ?_⟩, fun b hb o e => (qS b hb o e).1⟩
      · obtain ⟨o, e, _⟩ := T.obj _ _ t3 b hb
        exact (pf b hb o e).2
      · exact ⟨S3.s.names (s' := ⟨f x (wipeR s.ρ vs), s.gs⟩) S5.ungen.s e5, S5.ungen.o⟩
    refine seg_bind_wrap ?_
    rw [hA]
    refine wpAny_mono ((L.test z ok x hmem F3 σ4 H4 F3 (.refl _) S4).run _ s4 I4) (fun b s5 ⟨H5, I5, s5', F5, e5, S5, eb, es⟩ => ?_) fun _ _ e => e.elim
    subst eb es
    cases hc : c x with
    | false =>
      rw [drop_at hx, List.filter_cons_of_neg (by simp [hc])]
      simp only [Bool.false_eq_true, if_false]
      exact seg_again rfl (ih (i + 1) s₀ _ (by omega) hlt (fin I5 e5 S5).1 fun b hb o e => (fin I5 e5 S5).2 b hb o (hsk b hb o e))
    | true =>
      rw [drop_at hx, List.filter_cons_of_pos hc, List.length_cons]
      simp only [if_true]
      have hy : ∀ v, yieldOut (genE Y scope z) v = yieldValue v := fun v => by
        have : (genE Y scope z).scope.isCoroutine = false := hco
        simp only [yieldOut, this, Bool.false_eq_true, if_false]
      simp only [hy]
      rw [Sem.bind_eq_wrap', Sem.bind_eq_wrap', Sem.wrap_wrap, Sem.wrap_wrap]
      refine seg_wrap ?_
      rw [hA]
      refine wpAny_mono ((L.elt z ok x hmem hc F5 σ4 H5 F5 (.refl _) S5).run _ s5 I5) (fun w s6 ⟨v6, H6, I6, r6, F6, e6, rv6, S6⟩ => ?_) fun _ _ e => e.elim
      obtain ⟨gt6, kp6⟩ := fin I6 (e5.trans e6) S6
      have ev : v6 = FlatV.z (h x) := FlatE.of (α := γ) rv6
      subst ev
      refine seg_at (seg_yield rfl rfl rfl ⟨h x, rest_at hx hc, r6, gt6.ge, fun b hb o e => kp6 b hb o (hsk b hb o e), fun s7 w7 => ?_⟩)
      exact seg_again rfl (ih (i + 1) s7 s7 (by omega) hlt (gt6.aw T a w7) fun _ _ _ e => e)
end
end Sp
set_option maxHeartbeats 4000000
namespace Sp
open PySem L2
open PySem.W (Datum DatumOrd SomeDatum)
structure SW (prog : Program) (w : World) (A : Around) (a : Addr) (S : List Addr) (n : Nat) (St : Nat → Shared → Prop) (P : Nat → Value → Prop) (D : Shared → Prop) : Prop where
  item : ∀ (i : Nat) (s : Shared) (Q : Option Value → Shared → Prop) (E : Value → Shared → Prop), i < n → St i s → (∀ v s', P i v → St (i + 1) s' → (∀ b ∈ S, ∀ o, s.heap.get? b = some o → s'.heap.get? b = some o) → Q (some v) s') → wpAny (model prog w) A (pyNext (.ref a)) Q E s
  done : ∀ (s : Shared) (Q : Option Value → Shared → Prop) (E : Value → Shared → Prop), St n s → (∀ s', D s' → Q none s') → wpAny (model prog w) A (pyNext (.ref a)) Q E s
  out : ∀ i s, St i s → D s
section
variable {prog : Program} {w : World} {A : Around} {a : Addr} {S : List Addr} {St : Nat → Shared → Prop} {D : Shared → Prop} {R : Result → Shared → Prop}
theorem drop_item {α : Type} {l : List α} {i : Nat} {x : α} (h : l[i]? = some x) : l.drop i = x :: l.drop (i + 1) := drop_at h
theorem any_go {ys : List Bool} (W : SW prog w A.in1 a S ys.length St (fun i v => ∃ y, ys[i]? = some y ∧ v = .bool y) D) : ∀ (k i : Nat) (s : Shared), ys.length - i = k → i ≤ ys.length → St i s →
    (∀ s', D s' → R (.ok (.ret (.bool ((ys.drop i).any id)))) s') → codeAny (model prog w) A (.builtin "any.loop" ⟨[.ref a], []⟩) R s := by
  intro k
  induction k with
  | zero =>
    intro i s hk hi hst hR
    obtain rfl : i = ys.length := by omega
    refine codeAny_builtin F.entry_any_loop ?_
    rw [Around.under_plainId F.plain_any_loop _]
    show wpAny _ A.in1 (pyNext (.ref a) >>= _) _ _ s
    refine wpAny_bind (W.done s _ _ hst fun s' hm => wpAny_bind (wpAny_rule (wpAny_pure ?_)))
    have := hR s' hm
    rw [List.drop_length] at this
    exact this
  | succ k ih =>
    intro i s hk hi hst hR
    have hlt : i < ys.length := by omega
    refine codeAny_builtin F.entry_any_loop ?_
    rw [Around.under_plainId F.plain_any_loop _]
    show wpAny _ A.in1 (pyNext (.ref a) >>= _) _ _ s
    refine wpAny_bind (W.item i s _ _ hlt hst fun v s' ⟨y, hy, ev⟩ hst' _ => ?_)
    subst ev
    rw [drop_item hy, List.any_cons] at hR
    refine wpAny_bind (wpAny_holding (wpAny_truthy_bool (wpAny_bind (wpAny_letGo ?_))))
    cases y with
    | false =>
      simp only [Bool.false_eq_true, if_false]
      exact wpAny_pure ⟨plainId_quiet F.plain_any_loop _, ih (i + 1) _ (by omega) hlt hst' hR⟩
    | true =>
      simp only [if_true]
      exact wpAny_bind (wpAny_rule (wpAny_pure (hR s' (W.out _ _ hst'))))
end
theorem bare_set {s : Shared} {g : Nat} {x : GenState} (h : PyProof.Rows.AllBare s.gens) (hb : x.bare = true) : PyProof.Rows.AllBare (s.setGen g x).gens := fun y hy => by
  have hy' : y ∈ s.gens.setIfInBounds g x := hy
  rcases Array.mem_or_eq_of_mem_setIfInBounds hy' with q | q
  · exact h y q
  · rw [q]; exact hb
section
variable {Y : DX} {scope : Scope} {ow : Ow} {z : GCx} {s : DSt} {σ : St} {F : Hp} {vs : List Nat} {γ : Type} [Enc γ] [FlatV γ]
theorem GE.same {S : List Addr} {s1 s2 : Shared} (h : GE Y scope ow z vs s σ F S s1) (w : Aw [] s1 s2) : GE Y scope ow z vs s σ F S s2 := by
  obtain ⟨H', F', I, hS, e, S⟩ := h
  exact ⟨H', F', GE.aw (S := []) (fun _ hb => absurd hb (by simp)) (fun _ hb => absurd hb (by simp)) I w, hS, e, S⟩
theorem GE.awS {S : List Addr} {s1 s2 : Shared} (a : ∀ b ∈ S, Ap Y scope z b) (h : GE Y scope ow z vs s σ F S s1) (w : Aw S s1 s2) : GE Y scope ow z vs s σ F S s2 := by
  obtain ⟨H', F', I, hS, e, S⟩ := h
  exact ⟨H', F', GE.aw a hS I w, hS, e, S⟩
theorem Aw.trans {S : List Addr} {s1 s2 s3 : Shared} (a : Aw S s1 s2) (b : Aw S s2 s3) : Aw S s1 s3 := ⟨b.1.trans a.1, b.2.1, fun c o h e => b.2.2.1 c o h (a.2.2.1 c o h e), b.2.2.2⟩
theorem GE.bare {S : List Addr} {s1 : Shared} (h : GE Y scope ow z vs s σ F S s1) : PyProof.Rows.AllBare s1.gens := by
  obtain ⟨H', F', I, _⟩ := h
  exact I.bare
def GSt (Y : DX) (scope : Scope) (ow : Ow) (z : GCx) (vs : List Nat) (s : DSt) (σ : St) (F : Hp) (S : List Addr) (ys : List γ) (A : Around) (a : Addr) (g : Nat) (i : Nat) (s1 : Shared) : Prop :=
  ∃ gs, s1.heap.IsGen a g ∧ s1.gens[g]? = some gs ∧ GE Y scope ow z vs s σ F S s1 ∧ (∀ b ∈ S, ∃ o, s1.heap.get? b = some o ∧ ∀ v, o.data ≠ .cell v) ∧
    ∀ s2, Aw S s1 s2 → gs.Goes (model Y.X.prog Y.X.w) A (fun n s0 r s2 => r = .ok .next ∧ (n = 0 ∧ GE Y scope ow z vs s σ F S s2 ∧ ∀ b ∈ S, ∀ o, s0.heap.get? b = some o → s2.heap.get? b = some o)) (GP Y scope ow z vs s σ F S ys) (ys.length - i) (.send .none) s2
theorem gen_sw {ys : List γ} {S : List Addr} {A : Around} {a : Addr} {g : Nat} (ha : a ∈ S) (hh : A.handled = none) (hroom : A.depth < recursionLimit) :
    SW Y.X.prog Y.X.w A a S ys.length (GSt Y scope ow z vs s σ F S ys A.in1 a g) (fun i v => ∃ y, ys[i]? = some y ∧ RelV (FlatV.z y) v) (GE Y scope ow z vs s σ F S) where
  item := fun i s1 Q E hi ⟨gs, hg, hgs, ge, ob, go⟩ hQ => by
    obtain ⟨m, hm⟩ : ∃ m, ys.length - i = m + 1 := ⟨ys.length - i - 1, by omega⟩
    rw [hm] at go
    have hlt : g < s1.gens.size := by
      rcases Nat.lt_or_ge g s1.gens.size with h | h
      · exact h
      · rw [Array.getElem?_eq_none h] at hgs; cases hgs
    obtain ⟨H', F', I, _, e1, S1⟩ := id ge
    refine GenW.wpAny_gsz (n := g + 1) hlt ?_
    refine wpAny_pyNext_genexpQ (P := fun n s0 s2 => n = 0 ∧ GE Y scope ow z vs s σ F S s2 ∧ ∀ b ∈ S, ∀ o, s0.heap.get? b = some o → s2.heap.get? b = some o) hh I.nolimit hroom hg hgs (go _ ⟨rfl, bare_set I.bare rfl, fun _ _ _ e => e, ob⟩) (fun v s2 gs' hb ⟨y, hy, rv, ge2, kp, kap⟩ hsz => ?_) (fun s2 hp => absurd hp.1 (Nat.succ_ne_zero m))
    have hsz2 : g < s2.gens.size := by
      have h9 : g + 1 ≤ (s2.setGen g gs').gens.size := hsz
      rw [GenW.setGen_size] at h9
      exact h9
    have hi2 : ys.length - 1 - (m + 1 - 1) = i := by omega
    rw [hi2] at hy
    have hgs2 : (s2.setGen g gs').gens[g]? = some gs' := setGen_self (gs := s2.gens[g]) (Array.getElem?_eq_getElem hsz2)
    refine hQ v _ ⟨y, hy, rv⟩ ⟨gs', let ⟨o, nm, qn, ho, r⟩ := hg; ⟨o, nm, qn, kp a ha o ho, r⟩, hgs2, ge2.same ⟨rfl, bare_set ge2.bare hb, fun _ _ _ e => e, fun _ h => absurd h (by simp)⟩, fun b hb => let ⟨o, e, hc⟩ := ob b hb; ⟨o, kp b hb o e, hc⟩, fun s3 w3 => ?_⟩ fun b hb o e => kp b hb o e
    have e9 : ys.length - (i + 1) = m := by omega
    rw [e9]
    exact kap s3 w3
  done := fun s1 Q E ⟨gs, hg, hgs, ge, ob, go⟩ hQ => by
    rw [Nat.sub_self] at go
    obtain ⟨H', F', I, _, e1, S1⟩ := id ge
    refine wpAny_pyNext_genexpQ (P := fun n s0 s2 => n = 0 ∧ GE Y scope ow z vs s σ F S s2 ∧ ∀ b ∈ S, ∀ o, s0.heap.get? b = some o → s2.heap.get? b = some o) hh I.nolimit hroom hg hgs (go _ ⟨rfl, bare_set I.bare rfl, fun _ _ _ e => e, ob⟩) (fun v s2 gs' hb ⟨y, hy, rv, ge2, kp, kap⟩ => ?_) (fun s2 ⟨_, ge2, kp⟩ h' hk => ?_)
    · exact False.elim (kap s2 ⟨rfl, ge2.bare, fun _ _ _ e => e, fun b hb => let ⟨o, e, hc⟩ := ob b hb; ⟨o, kp b hb o e, hc⟩⟩)
    · exact hQ _ (ge2.same ⟨rfl, bare_set ge2.bare rfl, fun b o _ e => hk b o e, fun _ h => absurd h (by simp)⟩)
  out := fun i s1 ⟨gs, hg, hgs, ge, ob, go⟩ => ge
theorem GSt.aw {ys : List γ} {S : List Addr} {A : Around} {a : Addr} {g i : Nat} {s1 s2 : Shared} (ap : ∀ b ∈ S, Ap Y scope z b) (h : GSt Y scope ow z vs s σ F S ys A a g i s1) (w : Aw S s1 s2) (hg : s2.gens = s1.gens) (ha : ∀ o, s1.heap.get? a = some o → s2.heap.get? a = some o) : GSt Y scope ow z vs s σ F S ys A a g i s2 := by
  obtain ⟨gs, h1, h2, h3, h4, h5⟩ := h
  obtain ⟨o, nm, qn, ho, r⟩ := h1
  exact ⟨gs, ⟨o, nm, qn, ha o ho, r⟩, by rw [hg]; exact h2, h3.awS ap w, w.2.2.2, fun s3 w3 => h5 s3 (w.trans w3)⟩
end
end Sp
set_option maxHeartbeats 4000000
namespace Sp
open PySem L2
open PySem.W (Datum DatumOrd SomeDatum)
section
variable {Y : DX} {k : Nat} {scope : Scope} {ow : Ow} {z : GCx} {s : DSt} {σ : St} {H F : Hp} {β γ : Type} [Enc β] [Enc γ] [FlatV γ] [FlatE γ]
theorem seg_start {A : Around} {vs ws : List Nat} {tg elt iter : Expr} {ifs : List Expr} {g : TG} {f : β → Rho → Rho} {items : List β} {c : β → Bool} {h : β → γ} {tn : Nat → Heap → Prop} {S : List Addr} {it : Addr} {J : It} {gpos : Pos} (L : GTurns Y k s scope ow vs tg elt ifs g ws f items c h) (ok : YOk (genYO Y k scope ow z)) (hco : scope.isCoroutine = false)
    (T : Turn Y.X.prog Y.X.w Y.X.K tg J z.fp it tn) (a : ∀ b ∈ S, Ap Y scope z b) (K1 : ItOk Y.X.K J F items) (hA : A.over (.compLoop (.GeneratorExp elt [⟨tg, iter, ifs, 0⟩] scope gpos) 0 (.ref it) .none (genE Y scope z)) [] = z.A)
    (s₀ s1 : Shared) (gt : GT Y scope ow z vs s σ F tn S 0 s1) (hsk : ∀ b ∈ S, ∀ o, s₀.heap.get? b = some o → s1.heap.get? b = some o) :
    Seg (model Y.X.prog Y.X.w) A (fun n s0 r s2 => r = .ok .next ∧ (n = 0 ∧ GE Y scope ow z vs s σ F S s2 ∧ ∀ b ∈ S, ∀ o, s0.heap.get? b = some o → s2.heap.get? b = some o)) (GP Y scope ow z vs s σ F S ((items.filter c).map h)) ((items.filter c).map h).length s₀
      (.compStart (.GeneratorExp elt [⟨tg, iter, ifs, 0⟩] scope gpos) 0 (.ref it) .none (genE Y scope z))
      ((model Y.X.prog Y.X.w).den (.compStart (.GeneratorExp elt [⟨tg, iter, ifs, 0⟩] scope gpos) 0 (.ref it) .none (genE Y scope z))) [] s1 := by
  have loop := seg_gen (iter := iter) (gpos := gpos) (F0 := F) L ok hco T a K1 hA items.length 0 s₀ s1 (by omega) (Nat.zero_le _) gt hsk
  rw [List.drop_zero] at loop
  rw [List.length_map]
  obtain ⟨H', F', I, t1, _⟩ := gt
  show Seg _ A _ _ _ s₀ _ ((compStart (.GeneratorExp elt [⟨tg, iter, ifs, 0⟩] scope gpos) 0 (.ref it) .none (genE Y scope z)).onRaise (leaving (genE Y scope z))) [] s1
  unfold compStart
  rw [Sem.onRaise_eq_wrap]
  show Seg _ A _ _ _ s₀ _ ((ask >>= _).wrap _ _ _ _) [] s1
  refine seg_bind_wrap (wpAny_askSetting ?_)
  split
  · exact seg_again rfl loop
  · refine seg_bind_wrap (wpAny_rule ?_)
    show Seg _ A _ _ _ s₀ _ ((standAt iter.pos >>= _).wrap _ _ _ _) [] s1
    exact seg_bind_wrap (wpAny_standAt (seg_bind_wrap (T.self _ 0 s1 _ _ t1 (seg_again rfl loop))))
end
theorem newFn_cells {M : Model} {A : Around} {E : Value → Shared → Prop} {s : Shared} {scope : Scope} {globals : Addr} {cl : List (Str × Addr)} {it : Value} {qual : Str} {code : Value} {bi : Addr} {Q : Env → Shared → Prop} (hk : scope.kind = .function) (h0 : scope.names.lookup (".0" : Str) = some NameKind.local)
    (hQ : ∀ h' : Heap, h'.Ns s.heap.objs.size (fun y => if y = ".0" then some it else none) → CellsOk h' (s.heap.objs.size + 1) (cellsFrom (s.heap.objs.size + 1) scope.names []) → (∀ b o, s.heap.get? b = some o → h'.get? b = some o) → s.heap.objs.size < h'.objs.size →
      Q { scope, locals := s.heap.objs.size, globals, cells := cellsFrom (s.heap.objs.size + 1) scope.names cl, qual, func := none, code, frame := some s.heap.objs.size, builtins := bi } { s with heap := h', toks := s.toks + 1 }) :
    wpAny M A (newFunctionEnv scope globals cl [(".0", it)] qual none code none bi) Q E s := by
  simp only [newFunctionEnv, Option.isSome_none, Bool.false_eq_true, if_false]
  refine wpAny_bind (wpAny_alloc ?_)
  refine wpAny_bind (wpAny_layCells _ (fun name kind cells => by cases hkc : kind == NameKind.cell <;> simp [hkc]) _ _ _ _ ?_)
  rw [show ({ s with heap := s.heap.push { cls := .type "frame", data := .dict #[] } } : Shared).heap.objs.size = s.heap.objs.size + 1 from Heap.size_push ..]
  have ok := cellsFrom_ok scope.names (s.heap.push { cls := .type "frame", data := .dict #[] }) (s.heap.objs.size + 1) [] ⟨fun _ _ hm => (nomatch hm), List.Pairwise.nil⟩ (by rw [Heap.size_push]; exact Nat.le_refl _)
  rw [Heap.size_push] at ok
  have ns : (pushCells (s.heap.push { cls := .type "frame", data := .dict #[] }) scope.names).Ns s.heap.objs.size (fun _ => none) := (Heap.Ns.new s.heap (.type "frame")).keeps (pushCells_keeps _ _)
  rw [List.forIn_cons]
  refine wpAny_bind (wpAny_bind (wpAny_bind (wpAny_storeName_local (s := { s with heap := pushCells (s.heap.push { cls := .type "frame", data := .dict #[] }) scope.names }) h0 ns (fun h' hn' hs' => ?_) (by rw [hk]; rfl))))
  refine wpAny_pure ?_
  dsimp only
  rw [List.forIn_nil]
  refine wpAny_pure (wpAny_pure (hQ h' hn' ⟨fun n c hm => ?_, ok.apart⟩ (fun b o e => ?_) ?_))
  · obtain ⟨z1, z2⟩ := ok.empty n c hm
    exact ⟨z1.sameBut hs' (Nat.ne_of_gt z2), z2⟩
  · exact hs'.extBut b o (Nat.ne_of_lt (Heap.lt_size e)) (pushCells_keeps _ _ _ _ (Heap.get?_push_of_some _ e))
  · exact hn'.lt
theorem gexp_make {M : Model} {A : Around} {E : Value → Shared → Prop} {s : Shared} {env : Env} {elt target iter : Expr} {ifs : List Expr} {scope : Scope} {cl : List (Str × Addr)} {pos : Pos} {Q : Value → Shared → Prop}
    (hco : scope.isCoroutine = false) (hclos : closureFor scope env = pure cl) (h0 : scope.names.lookup (".0" : Str) = some NameKind.local) (hkind : scope.kind = .function) (hroom : A.depth < recursionLimit)
    (h : wpAny M A (eval iter env) (fun xv s₁ => wpAny M A (pyIter xv) (fun it s₂ => s₂.heap.NoLimit ∧
      wpAny M A (genexprCode env pos (env.qual ++ "<genexpr>") scope) (fun code s₃ => wpAny M A (builtinsFor env.globals env.builtins) (fun bi s₄ =>
        ∀ h' : Heap, h'.Ns s₄.heap.objs.size (fun y => if y = ".0" then some it else none) → CellsOk h' (s₄.heap.objs.size + 1) (cellsFrom (s₄.heap.objs.size + 1) scope.names []) → (∀ b o, s₄.heap.get? b = some o → h'.get? b = some o) → s₄.heap.objs.size < h'.objs.size →
          Q (.ref h'.objs.size) { s₄ with
            gens := s₄.gens.push (.fresh (.compStart (.GeneratorExp elt [⟨target, iter, ifs, 0⟩] scope pos) 0 it .none (genEnv scope (cellsFrom (s₄.heap.objs.size + 1) scope.names cl) s₄.heap.objs.size code bi env))),
            toks := s₄.toks + 1 + 1 + 1,
            heap := h'.push { cls := .type "generator", data := .fields #[.int s₄.gens.size 0, .str "<genexpr>" (s₄.toks + 1), .str (env.qual ++ "<genexpr>") (s₄.toks + 1 + 1)] } }) E s₃) E s₂) E s₁) E s)
    (hs : ∀ x, genFold iter env x = pure x) :
    wpAny M A (eval (.GeneratorExp elt [⟨target, iter, ifs, 0⟩] scope pos) env) Q E s := by
  rw [eval_GeneratorExp1 _ _ _ _ _ _ _ hco, hclos]
  refine wpAny_bind (wpAny_mono h (fun xv s₁ h₁ => wpAny_bind (wpAny_standAt (wpAny_bind (wpAny_of_eq (hs xv) (wpAny_bind (wpAny_holding (wpAny_mono h₁ (fun it s₂ h₂ => ?_) fun _ _ e => e))))))) fun _ _ e => e)
  refine wpAny_bind (wpAny_enterFrame h₂.1 hroom (wpAny_bind (wpAny_pure (wpAny_bind (wpAny_mono h₂.2 (fun code s₃ h₃ => wpAny_bind (wpAny_mono h₃ (fun bi s₄ h₄ => ?_) fun _ _ e => e)) fun _ _ e => e)))))
  refine wpAny_bind (newFn_cells hkind h0 fun h' hn ce kp sz => ?_)
  simp only [newGenerator, newFields]
  refine wpAny_bind (wpAny_newGen (wpAny_bind (wpAny_mkText (wpAny_bind (wpAny_mkText (wpAny_newObj_type ?_ (by size_fits)))))))
  exact h₄ h' hn ce kp sz
inductive TbG (X : Cx) (T : Tb) (q : Str) (gp : Pos) : Ow → Prop
  | pl (h : Tbl X T (.plain q)) : TbG X T q gp noOw
  | ne (h : Tbl X T (.nest none)) : TbG X T q gp ownOw
  | ow {c c0 P0 : Addr} (hc : X.env.code = .ref c) (hm : (c, Tk.own) ∈ T) (B : LamX.TabB X.base X.mg c0 P0) : TbG X T q gp noOw
  | mx {ls : List (Nat × Nat)} {z : Str} (h : Tbl X T (.mix ls z)) (hl : lamAt ls gp = false) : TbG X T q gp noOw
theorem TbG.bm {X : Cx} {T : Tb} {q : Str} {gp : Pos} {ow : Ow} (h : TbG X T q gp ow) : ∃ P0, X.base.BuiltinsAt X.mg P0 := by
  cases h with
  | pl h => obtain ⟨c, P, B, _⟩ := h.ex; exact ⟨P, B.bm⟩
  | ne h => obtain ⟨c, P, B, _⟩ := h.ex; exact ⟨P, B.bm⟩
  | ow hc hm B => exact ⟨_, B.bm⟩
  | mx h hl => obtain ⟨c, P, B, _⟩ := h.ex; exact ⟨P, B.bm⟩
theorem codeT_ne {c P : Addr} {q : Option Str} (ps : Array Value) : CodeT c P q ≠ .tbl ps := fun z => by unfold CodeT at z; cases z
theorem pTab_ne {P : Addr} (ps : Array Value) : PTab P ≠ .tbl ps := fun z => by unfold PTab at z; cases z
theorem codeT_ok {P : Program} {w : World} {H : Hp} {h : Heap} {c P' : Addr} {ps : Array Value} {q : Option Str} (ic : h.IsCode c P' ps) (ta : h.TableAt c P' ps) (nm : ∀ z, q = some z → ∃ (oc : Obj) (us : Array Value) (t : Tok), h.get? c = some oc ∧ oc.data = .fields us ∧ us[1]? = some (.str z t)) : ObjOk P w H h c (CodeT c P' q) := by
  obtain ⟨o, vs, file, tf, flags, tg, inF, text, tt, op, ho, hd, h11, h2, h7, h9, h10, hop, hpd, htr, hne⟩ := ic
  obtain ⟨⟨o2, vs2, ho2, hc2, hd2, h112⟩, _⟩ := ta
  rw [ho] at ho2
  cases ho2
  rw [hd] at hd2
  cases hd2
  exact ⟨⟨nm, o, vs, file, tf, flags, tg, inF, text, tt, ho, hc2, hd, h112, h11, h2, h7, h9, h10, hne⟩, ⟨o, ho⟩, fun h1 h2 ⟨nm, o, vs, file, tf, flags, tg, inF, text, tt, e, r⟩ k => ⟨fun z hz => by obtain ⟨oc, us, t, a1, a2⟩ := nm z hz; exact ⟨oc, us, t, k _ a1, a2⟩, o, vs, file, tf, flags, tg, inF, text, tt, k _ e, r⟩⟩
theorem pTab_ok {P : Program} {w : World} {H : Hp} {h : Heap} {P' : Addr} {ps : Array Value} (e : h.get? P' = some { cls := .none, data := .fields ps }) (t : TriplesOk ps.toList) (r : ∀ pos cv, codeAmong pos ps.toList = some cv → ∃ c, cv = .ref c) : ObjOk P w H h P' (PTab P') :=
  ⟨⟨ps, e, t, r⟩, ⟨_, e⟩, fun h1 h2 ⟨ps, e, q⟩ k => ⟨ps, k _ e, q⟩⟩
theorem upd_idT {H : Hp} {a : Addr} {o : HO} (h : H a = some o) : upd H a o = H := by
  funext b
  by_cases e : b = a
  · rw [e, upd_same, h]
  · rw [upd_ne e]
section
variable {Y : DX} {s : DSt} {σ : St} {H F : Hp} {pins : List (Addr × Obj)} {scope : Scope} {gpos : Pos} {Q E : Value → Shared → Prop} {s2 : Shared}
theorem gen_code {ow : Ow} (tb : TbG Y.X Y.T (Y.X.env.qual ++ "<genexpr>") gpos ow) (I : Inv Y.X pins σ H s2) (S : Sta Y s σ H F)
    (k : ∀ (c : Addr) (s3 : Shared) (H3 : Hp), Inv Y.X pins σ H3 s3 → Sta Y s σ H3 F → (∀ z : GCx, z.code = c → TbOk (ow z) H3) → (∀ b o, H b = none → s2.heap.get? b = some o → s3.heap.get? b = some o) → (∀ b, H b = none → b < s2.heap.objs.size → H3 b = none) → Q (.ref c) s3) :
    wpAny (model Y.X.prog Y.X.w) Y.X.A (genexprCode Y.X.env gpos (Y.X.env.qual ++ "<genexpr>") scope) Q E s2 := by
  have no : ∀ {z : GCx} {H3 : Hp}, TbOk (noOw z) H3 := fun {z H3} p hp => by cases hp
  cases tb with
  | pl h =>
    obtain ⟨cd, P, TB, hcode, hmT, hu⟩ := h.ex
    obtain ⟨ps, hP, ht, hcv⟩ := S.tb _ hmT
    have hP' : s2.heap.get? P = some { cls := .none, data := .fields ps } := I.hok P _ hP
    have nP : ∀ {b : Addr}, H b = none → b ≠ P := fun {b} e z => by rw [z, hP] at e; cases e
    cases hf : codeAmong gpos ps.toList with
    | some cv =>
      obtain ⟨c, rfl, _⟩ := hcv gpos cv hf
      exact wpAny_genexprCode_hit hcode ((TB.code.keeps I.bk).code hP' ht) hf (k c s2 H I S (fun _ _ => no) (fun _ _ _ e => e) fun b hb _ => hb)
    | none =>
      refine wpAny_genexprCodeX hcode ((TB.code.keeps I.bk).code hP' ht) ((TB.code.keeps I.bk).tab hP') hf fun c' h' tk hx hge hlt hco' hrec htab' _ => ?_
      obtain ⟨c2, oc, ws, t, e2, hoc, hd, hv⟩ := hrec
      cases e2
      have nC : H c' = none := I.hok.fresh hge
      have I3 := LamX.inv_table (t' := tk) (more := #[rawInt gpos.line, rawInt gpos.col, .ref c']) (h' := h') (q := Y.X.env.qual ++ "<genexpr>") I hP (fun b o hb e => hx b o hb e) htab'.2 hge ⟨oc, ws, t, hoc, hd, hv⟩
      have ex : LamX.ExtN H (upd (upd H P (.tbl (ps ++ #[rawInt gpos.line, rawInt gpos.col, .ref c']))) c' (LamX.CodeO c' (Y.X.env.qual ++ "<genexpr>"))) := fun b o e n => by
        rw [upd_ne (ne_of_none e nC), upd_ne (fun x => n ps (by rw [x, hP] at e; exact (Option.some.inj e).symm))]
        exact e
      have el : (ps ++ #[rawInt gpos.line, rawInt gpos.col, .ref c']).toList = ps.toList ++ [rawInt gpos.line, rawInt gpos.col, .ref c'] := by simp
      refine k c' _ _ I3 (S.extN ex (fun p hp => ?_) fun a qs ha e => ?_) (fun _ _ => no) (fun b o hb e => hx b o (nP hb) e) fun b hb hl => ?_
      · have hp' := plainT_mem.mp hp
        obtain ⟨qs, a1, a2, a3⟩ := S.tb _ hp'
        by_cases hb : p.1 = P
        · have hq := hu _ hp' hb
          have hq' : p.2 = Y.X.env.qual ++ "<genexpr>" := by injection hq
          have a1' : H p.1 = some (.tbl qs) := a1
          rw [hb, hP] at a1'
          cases a1'
          refine ⟨_, by rw [hb, upd_ne (ne_of_none hP nC), upd_same], by rw [el]; exact PySem.TriplesOk_snoc _ _ _ _ ht, fun p' cv hcv' => ?_⟩
          rw [el] at hcv'
          rcases LamX.among_app _ ht hcv' with y | y
          · obtain ⟨c0, e1, e2⟩ := a3 p' cv y
            exact ⟨c0, e1, ex _ _ e2 LamX.codeO_ne⟩
          · exact ⟨c', y, by rw [hq', upd_same]⟩
        · refine ⟨qs, by rw [upd_ne (ne_of_none a1 nC), upd_ne hb]; exact a1, a2, fun p' cv hcv' => ?_⟩
          obtain ⟨c0, e1, e2⟩ := a3 p' cv hcv'
          exact ⟨c0, e1, ex _ _ e2 LamX.codeO_ne⟩
      · rw [upd_ne (ne_of_none e nC), upd_ne (fun z => by rcases ha with ⟨_, ha⟩ | ⟨_, _, ha⟩ <;> (have h9 := hu _ ha z; cases h9))]
        exact e
      · rw [upd_ne (Nat.ne_of_lt (Nat.lt_of_lt_of_le hl hge)), upd_ne (nP hb)]
        exact hb
  | ne h =>
    obtain ⟨cd, P, TB, hcode, hmT, hu⟩ := h.ex
    obtain ⟨ps, hP, ht, hcv⟩ := S.tb _ hmT
    have hP' : s2.heap.get? P = some { cls := .none, data := .fields ps } := I.hok P _ hP
    have nP : ∀ {b : Addr}, H b = none → b ≠ P := fun {b} e z => by rw [z, hP] at e; cases e
    cases hf : codeAmong gpos ps.toList with
    | some cv =>
      obtain ⟨c, P', rfl, z1, z2⟩ := hcv gpos cv hf
      refine wpAny_genexprCode_hit hcode ((TB.code.keeps I.bk).code hP' ht) hf (k c s2 H I S (fun z hz p hp => ?_) (fun _ _ _ e => e) fun b hb _ => hb)
      cases List.mem_singleton.mp hp
      show TbE H z.code .own
      rw [hz]
      exact ⟨P', _, z1, z2⟩
    | none =>
      refine wpAny_genexprCodeX hcode ((TB.code.keeps I.bk).code hP' ht) ((TB.code.keeps I.bk).tab hP') hf fun c' h' tk hx hge hlt hco' hrec htab' ⟨P', hge', ic, ta⟩ => ?_
      obtain ⟨c2, oc, ws, t, e2, hoc, hd, hv⟩ := hrec
      cases e2
      have nC : H c' = none := I.hok.fresh hge
      have nC' : H P' = none := I.hok.fresh hge'
      have nPc : P ≠ c' := ne_of_none hP nC
      have nPp : P ≠ P' := ne_of_none hP nC'
      have ncp : c' ≠ P' := by obtain ⟨_, _, _, _, _, _, _, _, _, _, _, _, _, _, _, _, _, _, _, _, hne⟩ := ic; exact hne
      have I3 := LamX.inv_table (t' := tk) (more := #[rawInt gpos.line, rawInt gpos.col, .ref c']) (h' := h') (q := Y.X.env.qual ++ "<genexpr>") I hP (fun b o hb e => hx b o hb e) htab'.2 hge ⟨oc, ws, t, hoc, hd, hv⟩
      have I4 := I3.write (x := c') (e := c') (h' := h') (t' := tk) (o := CodeT c' P' none) (by rw [upd_same]; exact True.intro) (.inl rfl) (fun b u _ e => e) ⟨oc, hoc⟩ (codeT_ok ic ta fun z hz => by cases hz)
      rw [upd_upd] at I4
      have I5 := I4.take (h' := h') (t' := tk) (it := P') (o := PTab P') (fun b ob _ e => e) (I.fpOk hge' (by rw [upd_ne (Ne.symm ncp), upd_ne (Ne.symm nPp)]; exact nC')) (pTab_ok ta.2 trivial fun pos cv h => by
        have h : codeAmong pos [] = some cv := h
        cases h)
      have el : (ps ++ #[rawInt gpos.line, rawInt gpos.col, .ref c']).toList = ps.toList ++ [rawInt gpos.line, rawInt gpos.col, .ref c'] := by simp
      have sm : ∀ b o, H b = some o → b ≠ P → upd (upd (upd H P (.tbl (ps ++ #[rawInt gpos.line, rawInt gpos.col, .ref c']))) c' (CodeT c' P' none)) P' (PTab P') b = some o := fun b o e n => by
        rw [upd_ne (ne_of_none e nC'), upd_ne (ne_of_none e nC), upd_ne n]; exact e
      have ex : LamX.ExtN H (upd (upd (upd H P (.tbl (ps ++ #[rawInt gpos.line, rawInt gpos.col, .ref c']))) c' (CodeT c' P' none)) P' (PTab P')) := fun b o e n => sm b o e fun x => n ps (by rw [x, hP] at e; exact (Option.some.inj e).symm)
      have atc : upd (upd (upd H P (.tbl (ps ++ #[rawInt gpos.line, rawInt gpos.col, .ref c']))) c' (CodeT c' P' none)) P' (PTab P') c' = some (CodeT c' P' none) := by rw [upd_ne ncp, upd_same]
      have atp : upd (upd (upd H P (.tbl (ps ++ #[rawInt gpos.line, rawInt gpos.col, .ref c']))) c' (CodeT c' P' none)) P' (PTab P') P' = some (PTab P') := upd_same
      have atP : upd (upd (upd H P (.tbl (ps ++ #[rawInt gpos.line, rawInt gpos.col, .ref c']))) c' (CodeT c' P' none)) P' (PTab P') P = some (.tbl (ps ++ #[rawInt gpos.line, rawInt gpos.col, .ref c'])) := by rw [upd_ne nPp, upd_ne nPc, upd_same]
      refine k c' _ _ I5 (S.extT ex fun p hp => ?_) (fun z hz p hp => ?_) (fun b o hb e => hx b o (nP hb) e) fun b hb hl => ?_
      · obtain ⟨a, kd⟩ := p
        have h0 := S.tb _ hp
        by_cases hb : a = P
        · have hk := hu _ hp hb
          have hk' : kd = .nest none := hk
          subst hk' hb
          refine ⟨_, atP, by rw [el]; exact PySem.TriplesOk_snoc _ _ _ _ ht, fun p' cv hcv' => ?_⟩
          rw [el] at hcv'
          rcases LamX.among_app _ ht hcv' with y | y
          · obtain ⟨c0, P0, e1, e2, e3⟩ := hcv p' cv y
            exact ⟨c0, P0, e1, ex _ _ e2 codeT_ne, ex _ _ e3 pTab_ne⟩
          · exact ⟨c', P', y, atc, atp⟩
        · cases kd with
          | plain q =>
            obtain ⟨qs, a1, a2, a3⟩ := h0
            refine ⟨qs, sm _ _ a1 hb, a2, fun p' cv hcv' => ?_⟩
            obtain ⟨c0, e1, e2⟩ := a3 p' cv hcv'
            exact ⟨c0, e1, ex _ _ e2 LamX.codeO_ne⟩
          | nest z9 =>
            obtain ⟨qs, a1, a2, a3⟩ := h0
            refine ⟨qs, sm _ _ a1 hb, a2, fun p' cv hcv' => ?_⟩
            obtain ⟨c0, P0, e1, e2, e3⟩ := a3 p' cv hcv'
            exact ⟨c0, P0, e1, ex _ _ e2 codeT_ne, ex _ _ e3 pTab_ne⟩
          | own =>
            obtain ⟨P0, q, e2, e3⟩ := h0
            exact ⟨P0, q, ex _ _ e2 codeT_ne, ex _ _ e3 pTab_ne⟩
          | mix ls q =>
            obtain ⟨qs, a1, a2, a3⟩ := h0
            refine ⟨qs, sm _ _ a1 hb, a2, fun p' cv hcv' => ?_⟩
            obtain ⟨c0, e1, e2⟩ := a3 p' cv hcv'
            exact ⟨c0, e1, fun l => ex _ _ (e2 l) LamX.codeO_ne⟩
      · cases List.mem_singleton.mp hp
        show TbE _ z.code .own
        rw [hz]
        exact ⟨P', _, atc, atp⟩
      · rw [upd_ne (Nat.ne_of_lt (Nat.lt_of_lt_of_le hl hge')), upd_ne (Nat.ne_of_lt (Nat.lt_of_lt_of_le hl hge)), upd_ne (nP hb)]
        exact hb
  | @mx ls z h hl =>
    obtain ⟨cd, P, TB, hcode, hmT, hu⟩ := h.ex
    obtain ⟨ps, hP, ht, hcv⟩ := S.tb _ hmT
    have hP' : s2.heap.get? P = some { cls := .none, data := .fields ps } := I.hok P _ hP
    have nP : ∀ {b : Addr}, H b = none → b ≠ P := fun {b} e z => by rw [z, hP] at e; cases e
    cases hf : codeAmong gpos ps.toList with
    | some cv =>
      obtain ⟨c, rfl, _⟩ := hcv gpos cv hf
      exact wpAny_genexprCode_hit hcode ((TB.code.keeps I.bk).code hP' ht) hf (k c s2 H I S (fun _ _ => no) (fun _ _ _ e => e) fun b hb _ => hb)
    | none =>
      refine wpAny_genexprCodeX hcode ((TB.code.keeps I.bk).code hP' ht) ((TB.code.keeps I.bk).tab hP') hf fun c' h' tk hx hge hlt hco' hrec htab' _ => ?_
      obtain ⟨c2, oc, ws, t, e2, hoc, hd, hv⟩ := hrec
      cases e2
      have nC : H c' = none := I.hok.fresh hge
      have I3 := LamX.inv_table (t' := tk) (more := #[rawInt gpos.line, rawInt gpos.col, .ref c']) (h' := h') (q := Y.X.env.qual ++ "<genexpr>") I hP (fun b o hb e => hx b o hb e) htab'.2 hge ⟨oc, ws, t, hoc, hd, hv⟩
      have sm : ∀ b o, H b = some o → b ≠ P → upd (upd H P (.tbl (ps ++ #[rawInt gpos.line, rawInt gpos.col, .ref c']))) c' (LamX.CodeO c' (Y.X.env.qual ++ "<genexpr>")) b = some o := fun b o e n => by
        rw [upd_ne (ne_of_none e nC), upd_ne n]; exact e
      have ex : LamX.ExtN H (upd (upd H P (.tbl (ps ++ #[rawInt gpos.line, rawInt gpos.col, .ref c']))) c' (LamX.CodeO c' (Y.X.env.qual ++ "<genexpr>"))) := fun b o e n => sm b o e fun x => n ps (by rw [x, hP] at e; exact (Option.some.inj e).symm)
      have el : (ps ++ #[rawInt gpos.line, rawInt gpos.col, .ref c']).toList = ps.toList ++ [rawInt gpos.line, rawInt gpos.col, .ref c'] := by simp
      refine k c' _ _ I3 (S.extT ex (mix_tb S.tb hmT hu (fun b o e n => sm b o e n) ex ⟨_, by rw [upd_ne (ne_of_none hP nC), upd_same], by rw [el]; exact PySem.TriplesOk_snoc _ _ _ _ ht, fun p' cv hcv' => ?_⟩)) (fun _ _ => no) (fun b o hb e => hx b o (nP hb) e) fun b hb hl => ?_
      · rw [el] at hcv'
        rcases among_app2 _ ht hcv' with y | ⟨y, y1, y2⟩
        · obtain ⟨c0, e1, e2⟩ := hcv p' cv y
          exact ⟨c0, e1, fun l => ex _ _ (e2 l) LamX.codeO_ne⟩
        · refine ⟨c', y, fun l => ?_⟩
          unfold lamAt at l hl
          rw [y1, y2, hl] at l
          cases l
      · rw [upd_ne (Nat.ne_of_lt (Nat.lt_of_lt_of_le hl hge)), upd_ne (nP hb)]
        exact hb
  | @ow c c0 P0 hcode hm B =>
    obtain ⟨P', q9, z1, z2⟩ := S.tb _ hm
    obtain ⟨⟨_, o, vs, file, tf, flags, tg, inF, text, tt, ho, hcl, hd, h11', h11, h2, h7, h9, h10, hne⟩, _⟩ := I.hok _ _ z1
    obtain ⟨⟨ps, hP', ht, hr⟩, _⟩ := I.hok _ _ z2
    have ic : s2.heap.IsCode c P' ps := ⟨o, vs, file, tf, flags, tg, inF, text, tt, _, ho, hd, h11, h2, h7, h9, h10, hP', rfl, ht, hne⟩
    have ta : s2.heap.TableAt c P' ps := ⟨⟨o, vs, ho, hcl, hd, h11'⟩, hP'⟩
    cases hf : codeAmong gpos ps.toList with
    | some cv =>
      obtain ⟨c1, rfl⟩ := hr gpos cv hf
      exact wpAny_genexprCode_hit hcode ic hf (k c1 s2 H I S (fun _ _ => no) (fun _ _ _ e => e) fun b hb _ => hb)
    | none =>
      refine wpAny_genexprCodeX hcode ic ta hf fun c' h' tk hx hge hlt hco' hrec htab' _ => ?_
      have el : (ps ++ #[rawInt gpos.line, rawInt gpos.col, .ref c']).toList = ps.toList ++ [rawInt gpos.line, rawInt gpos.col, .ref c'] := by simp
      have I3 := I.write (x := P') (e := P') (h' := h') (t' := tk) (o := PTab P') (by rw [z2]; exact True.intro) (.inl rfl) (fun b u hb e => hx b u hb e) ⟨_, htab'.2⟩ (pTab_ok htab'.2 (by rw [el]; exact PySem.TriplesOk_snoc _ _ _ _ ht) fun p' cv h => by
        rw [el] at h
        exact (LamX.among_app _ ht h).elim (fun y => hr p' cv y) fun y => ⟨c', y⟩)
      rw [upd_idT z2] at I3
      exact k c' _ H I3 S (fun _ _ => no) (fun b o hb e => hx b o (fun z => by rw [z, z2] at hb; cases hb) e) fun b hb _ => hb
end
structure Made {γ : Type} [Enc γ] [FlatV γ] (Y : DX) (scope : Scope) (ow : Ow) (vs : List Nat) (s : DSt) (σ : St) (F0 : Hp) (pins : List (Addr × Obj)) (ys : List γ) (a : Addr) (s5 : Shared) : Prop where
  go : ∃ (z : GCx) (F : Hp) (g : Nat), Ext F0 F ∧ Inv Y.X pins σ z.H z.s ∧ (∀ b ∈ z.fp, (b ∈ Y.X.ex ∨ Y.X.s_0.heap.objs.size ≤ b) ∧ b ≠ Y.X.env.locals ∧ (∀ x c, Y.X.env.cells.lookup x = some c → c ≠ b) ∧ ∀ p ∈ Y.X.pn ++ pins, p.1 ≠ b) ∧
    s5.heap.IsGen a g ∧ ∀ (S : List Addr) (s6 : Shared), a ∈ S → (∀ b ∈ S, b = a ∨ s5.heap.objs.size ≤ b) → s6.os = s5.os → s6.gens = s5.gens → (∀ b o, s5.heap.get? b = some o → s6.heap.get? b = some o) → (∀ b ∈ S, ∃ o, s6.heap.get? b = some o ∧ ∀ v, o.data ≠ .cell v) →
      (∀ b ∈ S, Ap Y scope z b) ∧ GSt Y scope ow z vs s σ F S ys Y.X.A.in1.in1 a g 0 s6
section
variable {Y : DX} {k : Nat} {scope : Scope} {ow : Ow} {s : DSt} {σ : St} {β γ : Type} [Enc β] [Enc γ] [FlatV γ] [FlatE γ]
theorem gen_made {vs ws : List Nat} {tg elt iter : Expr} {ifs : List Expr} {g : TG} {f : β → Rho → Rho} {items : List β} {c : β → Bool} {h : β → γ} {gpos : Pos} {pins : List (Addr × Obj)} {F0 H F : Hp} {s0 : Shared} {Q : Value → Shared → Prop} (ok : YOk Y) (hk : k + 2 ≤ Y.k) (hi : EvIt Y s tg iter items) (G : GenOk Y.X.N Y.X.env.scope scope vs) (tb : TbG Y.X Y.T (Y.X.env.qual ++ "<genexpr>") gpos ow)
    (L : GTurns Y k s scope ow vs tg elt ifs g ws f items c h) (hs : ∀ x, genFold iter Y.X.env x = pure x) (e0 : Ext F0 F) (S : Sta Y s σ H F) (I : Inv Y.X pins σ H s0)
    (hQ : ∀ a s5, Made Y scope ow vs s σ F0 pins ((items.filter c).map h) a s5 → Q (.ref a) s5) :
    wpAny (model Y.X.prog Y.X.w) Y.X.A (eval (.GeneratorExp elt [⟨tg, iter, ifs, 0⟩] scope gpos) Y.X.env) Q Y.X.xe s0 := by
  obtain ⟨wi, hp, hw⟩ := hi
  have hfree : ∀ y ∈ scope.names, y.2 = .free → ∃ c, Y.X.env.cells.lookup y.1 = some c := fun y hy e => (G.free y hy e).elim (fun q => I.ok.has _ (.inl q)) fun q => I.ok.has _ (.inr q)
  refine gexp_make G.co (closure_ok hfree) G.dot G.kind ok.room.depth ?_ hs
  refine wpAny_mono (hp.run pins s0 σ H (fun J H' => ∃ F', Ext F0 F' ∧ Sta Y s σ H' F' ∧ ItOk Y.X.K J F' items) I (hw F0 σ H F _ e0 S fun J H' F' e1 S1 K1 => ⟨F', e1, S1, K1⟩)) (fun xv s1 h1 => wpAny_mono h1 (fun itv s2 ⟨it, fp, tn, J, H2, ei, I2, T, t2, f2, F2, e2, S2, K2⟩ => ?_) fun _ _ e => e) fun _ _ e => e
  subst ei
  refine ⟨I2.nolimit, ?_⟩
  refine gen_code tb I2 S2 fun code s3 H3 I3 S3 O3 kp3 fr3 => ?_
  obtain ⟨P0, bm0⟩ := tb.bm
  obtain ⟨bm, ob, b1, b2, b3, b4, b5, b6, b7, b8⟩ := bm0
  refine wpAny_builtinsFor (m := Y.X.mg) (by rw [I3.ok.glob]; exact I3.mod.glob.keeps I3.bk) b1 b2 (I3.bk _ _ b5) b6 b7 b8 ?_
  intro h' hn ce kp4 hsz
  have sz2 : ∀ b ∈ fp, b < s2.heap.objs.size := fun b hb => by
    obtain ⟨o, e, _⟩ := T.obj _ _ t2 b hb
    exact Heap.lt_size e
  have sz3 : ∀ b ∈ fp, b < s3.heap.objs.size := fun b hb => by
    obtain ⟨o, e, _⟩ := T.obj _ _ t2 b hb
    exact Heap.lt_size (kp3 b o (f2 b hb).1 e)
  have f3 : ∀ b ∈ fp, FpOk Y.X pins H3 b ∧ b < s3.heap.objs.size := fun b hb => ⟨⟨fr3 b (f2 b hb).1 (sz2 b hb), (f2 b hb).2⟩, sz3 b hb⟩
  generalize hz : (⟨(Y.X.A.in1.in1).over (.compLoop (.GeneratorExp elt [⟨tg, iter, ifs, 0⟩] scope gpos) 0 (.ref it) .none (genEnv scope (genCl Y.X.env.cells scope s3.heap.objs.size) s3.heap.objs.size (.ref code) builtinsNs Y.X.env)) [], s3.heap.objs.size, code, s3, H3, fp⟩ : GCx) = z
  have zA : (Y.X.A.in1.in1).over (.compLoop (.GeneratorExp elt [⟨tg, iter, ifs, 0⟩] scope gpos) 0 (.ref it) .none (genE Y scope z)) [] = z.A := by rw [← hz]
  have hr : Room k z.A := by
    have r := ok.room.mono hk
    rw [← hz]
    have h1 : Y.X.A.depth + 3 * (k + 2) + 5 < recursionLimit := r.dp
    have h2 : Y.X.A.units + 16 * (k + 2) + 200 < cLine := r.un
    have h3 : Y.X.A.depth + 1 + 3 * k + 5 < recursionLimit := by omega
    have h4 : Y.X.A.units + 1 + 1 + 3 + 16 * k + 200 < cLine := by omega
    exact ⟨r.hd, h3, h4⟩
  have fr : z.A.frames = some (genE Y scope z :: Y.X.stack) := by
    rw [← hz]
    show pushEnvs [_] (pushEnvs [] Y.X.A.frames) = _
    rw [I3.ok.frames]
    rfl
  have I5 : Inv (genX Y scope z) [] (L2.wipe σ vs) H3 { s3 with
          gens := s3.gens.push (.fresh (.compStart (.GeneratorExp elt [⟨tg, iter, ifs, 0⟩] scope gpos) 0 (.ref it) .none (genE Y scope z))),
          toks := s3.toks + 1 + 1 + 1,
          heap := h'.push { cls := .type "generator", data := .fields #[.int s3.gens.size 0, .str "<genexpr>" (s3.toks + 1), .str (Y.X.env.qual ++ "<genexpr>") (s3.toks + 1 + 1)] } } := by
    subst hz
    exact gen_start (A := _) (m0 := fun y => if y = ".0" then some (.ref it) else none) I3 G fr hr.hd f3 (hn.push _) ⟨fun y c hm => ⟨(ce.empty y c hm).1.keeps fun b o e => Heap.get?_push_of_some _ e, (ce.empty y c hm).2⟩, ce.apart⟩ (fun b o e => Heap.get?_push_of_some _ (kp4 b o e)) (I3.bare.push rfl)
  have hzs : z.s = s3 := by rw [← hz]
  have hzH : z.H = H3 := by rw [← hz]
  have hzf : z.fp = fp := by rw [← hz]
  have hzC : z.C = s3.heap.objs.size := by rw [← hz]
  have hzc : z.code = code := by rw [← hz]
  have ea : genEnv scope (genCl Y.X.env.cells scope s3.heap.objs.size) s3.heap.objs.size (.ref code) builtinsNs Y.X.env = genE Y scope z := by rw [← hz]
  rw [ea]
  have T' : Turn Y.X.prog Y.X.w Y.X.K tg J z.fp it tn := by rw [hzf]; exact T
  have ge : s3.heap.objs.size ≤ h'.objs.size := by omega
  have ap : ∀ b : Addr, h'.objs.size ≤ b → Ap Y scope z b := fun b hb => by
    have hb' : h'.objs.size ≤ (b : Nat) := hb
    have ge2 : s3.heap.objs.size ≤ b := Nat.le_trans ge hb
    refine ⟨by rw [hzs]; exact ge2, fun q => by
      rw [hzC] at q
      exact Nat.ne_of_gt (Nat.lt_of_lt_of_le hsz hb') q, fun x c e q => ?_, fun q => ?_, fun q => ?_⟩
    · rw [hzC] at e
      rcases genCl_cases I3.ok G e with ⟨a1, _⟩ | ⟨a1, _⟩
      · have h9 := (ce.empty x c a1).1.lt
        rw [q] at h9
        exact absurd (Nat.lt_of_lt_of_le h9 hb') (Nat.lt_irrefl _)
      · obtain ⟨v, hv⟩ := I3.cell x c a1
        have h9 : c < s3.heap.objs.size := hv.lt
        rw [q] at h9
        exact absurd (Nat.lt_of_lt_of_le h9 ge2) (Nat.lt_irrefl _)
    · rw [hzf] at q
      exact absurd (Nat.lt_of_lt_of_le (sz3 _ q) ge2) (Nat.lt_irrefl _)
    · rcases List.mem_cons.mp (I3.stkSub _ q) with q | q
      · have := I3.lt
        rw [← q] at this
        exact absurd (Nat.lt_of_lt_of_le this ge2) (Nat.lt_irrefl _)
      · exact I3.nofs ge2 q
  refine hQ _ _ ⟨z, F2, s3.gens.size, e2, by rw [hzs, hzH]; exact I3, fun b hb => ?_, ⟨_, _, _, Heap.get?_push_size _ rfl, rfl, rfl, rfl⟩, fun S s6 ha hS o6 g6 k6 b6 => ?_⟩
  · rw [hzf] at hb
    obtain ⟨_, f5, _, f6, f7, f8⟩ := (f3 b hb).1
    exact ⟨f6, f5, f7, f8⟩
  have hSb : ∀ b ∈ S, h'.objs.size ≤ b := fun b hb => by
    rcases hS b hb with q | q
    · rw [q]; exact Nat.le_refl _
    · have q' : h'.objs.size + 1 ≤ (b : Nat) := by
        have := q
        rw [Heap.size_push] at this
        exact this
      exact Nat.le_trans (Nat.le_succ _) q'
  have aw : Aw [] { s3 with
          gens := s3.gens.push (.fresh (.compStart (.GeneratorExp elt [⟨tg, iter, ifs, 0⟩] scope gpos) 0 (.ref it) .none (genE Y scope z))),
          toks := s3.toks + 1 + 1 + 1,
          heap := h'.push { cls := .type "generator", data := .fields #[.int s3.gens.size 0, .str "<genexpr>" (s3.toks + 1), .str (Y.X.env.qual ++ "<genexpr>") (s3.toks + 1 + 1)] } } s6 := ⟨o6, by rw [g6]; exact I5.bare, fun b o _ e => k6 b o e, fun _ h => absurd h (by simp)⟩
  have I6 := GE.aw (S := []) (fun _ hb => absurd hb (by simp)) (fun _ hb => absurd hb (by simp)) I5 aw
  have gt : GT Y scope ow z vs s σ F2 tn S 0 s6 :=
    ⟨H3, F2, I6, T.keep 0 _ _ t2 fun b hb o e => k6 b o (Heap.get?_push_of_some _ (kp4 b o (kp3 b o (f2 b hb).1 e))), fun b hb => (f3 b (by rw [← hzf]; exact hb)).1.1, fun b hb => I3.hok.fresh (Nat.le_trans ge (hSb b hb)), b6, .refl _, ⟨S3, O3 z hzc⟩⟩
  refine ⟨fun b hb => ap b (hSb b hb), .fresh (.compStart (.GeneratorExp elt [⟨tg, iter, ifs, 0⟩] scope gpos) 0 (.ref it) .none (genE Y scope z)), ⟨_, _, _, k6 _ _ (Heap.get?_push_size _ rfl), rfl, rfl, rfl⟩, by rw [g6]; exact Array.getElem?_push_size .., gt.ge, b6, fun s7 w7 => ⟨rfl, ?_⟩⟩
  exact seg_start (gpos := gpos) L (ok.gen hr) G.co T' (fun b hb => ap b (hSb b hb)) K2 zA s7 s7 (gt.aw T' (fun b hb => ap b (hSb b hb)) w7) fun _ _ _ e => e
theorem made_back {vs : List Nat} {F0 F : Hp} {pins : List (Addr × Obj)} {z : GCx} {s6 : Shared} (e0 : Ext F0 F) (I : Inv Y.X pins σ z.H z.s) (hf : ∀ b ∈ z.fp, (b ∈ Y.X.ex ∨ Y.X.s_0.heap.objs.size ≤ b) ∧ b ≠ Y.X.env.locals ∧ (∀ x c, Y.X.env.cells.lookup x = some c → c ≠ b) ∧ ∀ p ∈ Y.X.pn ++ pins, p.1 ≠ b)
    {S : List Addr} (g : GE Y scope ow z vs s σ F S s6) : ∃ H' F', Inv Y.X pins σ H' s6 ∧ Ext F0 F' ∧ Sta Y s σ H' F' := by
  obtain ⟨H', F', I6, _, e6, S6⟩ := g
  exact ⟨H', F', I.call' (ch := z.fp) I6.os I6.base I6.hok I6.bare hf, e0.trans e6, S6.s⟩
section
variable {Q : Pv → DSt → Prop} {vs ws : List Nat} {tg elt iter : Expr} {ifs : List Expr} {g : TG} {f : β → Rho → Rho} {items : List β} {c : β → Bool} {gpos pos p : Pos}
theorem ys_bool {h : β → Bool} {i : Nat} {v : Value} (w : ∃ y, ((items.filter c).map h)[i]? = some y ∧ RelV (FlatV.z y) v) : ∃ y, ((items.filter c).map h)[i]? = some y ∧ v = .bool y := by
  obtain ⟨y, h1, h2⟩ := w
  exact ⟨y, h1, h2⟩
theorem SW.imp {prog : Program} {w : World} {A : Around} {a : Addr} {S : List Addr} {n : Nat} {St : Nat → Shared → Prop} {P P' : Nat → Value → Prop} {D : Shared → Prop} (W : SW prog w A a S n St P D) (h : ∀ i v, P i v → P' i v) : SW prog w A a S n St P' D :=
  ⟨fun i s Q E hi st k => W.item i s Q E hi st fun v s' hp st' kp => k v s' (h i v hp) st' kp, W.done, W.out⟩
theorem evp_any {h : β → Bool} (ok : YOk Y) (B : Bis Y.X.mg) (hg : Gl Y.X "any") (hk : k + 2 ≤ Y.k) (hi : EvIt Y s tg iter items) (G : GenOk Y.X.N Y.X.env.scope scope vs) (tb : TbG Y.X Y.T (Y.X.env.qual ++ "<genexpr>") gpos ow)
    (L : GTurns Y k s scope ow vs tg elt ifs g ws f items c h) (hs : ∀ x, genFold iter Y.X.env x = pure x := by intro _; rfl)
    (he : starEach [.GeneratorExp elt [⟨tg, iter, ifs, 0⟩] scope gpos] Y.X.env = (false, eval (.GeneratorExp elt [⟨tg, iter, ifs, 0⟩] scope gpos) Y.X.env) :: starEach [] Y.X.env := by rfl) :
    EvP Y s (.Call (.Name "any" p) [.GeneratorExp elt [⟨tg, iter, ifs, 0⟩] scope gpos] [] pos) (pu (((items.filter c).map h).any id)) := fun F0 σ H F e0 S => by
  refine ⟨fun pins s0 I => ?_⟩
  refine wpAny_Call_Name_kw (ld_blt I hg (B.no _ (by decide)) (show bootBuiltins "any" = some (.builtin "any") by decide +kernel) ?_)
  refine PyProof.Rows.callWith_builtin1 ?_ he (by rfl)
  rw [he]
  show wpAny _ _ (spliced ((false, eval (.GeneratorExp elt [⟨tg, iter, ifs, 0⟩] scope gpos) Y.X.env) :: backTo pos (starEach [] Y.X.env))) _ _ s0
  refine Calls.spliced_cons (gen_made ok hk hi G tb L hs e0 S I fun a s5 M => ?_)
  obtain ⟨z, F2, gn, e2, I3, hf, hgn, st⟩ := M.go
  obtain ⟨oa, _, _, hoa, _, hda, _⟩ := id hgn
  obtain ⟨_, st⟩ := st [a] s5 (List.mem_singleton.mpr rfl) (fun b hb => .inl (List.mem_singleton.mp hb)) rfl rfl (fun _ _ e => e) (fun b hb => by rw [List.mem_singleton.mp hb]; exact ⟨oa, hoa, fun v q => by rw [hda] at q; cases q⟩)
  refine Calls.spliced_nil ?_
  refine call_function_tree PySem.F.kind_any PySem.F.plain_any PySem.F.entry_any (PySem.F.args_any1 _) ?_
  unfold Builtin.«any»
  refine wpAny_bind (m := oneArg "any" _) (wpAny_pure ?_)
  refine wpAny_bind (wpAny_pyIter_gen hgn ?_)
  refine wpAny_pure ⟨plainId_quiet PySem.F.plain_any_loop _, any_go ((gen_sw (A := Y.X.A.in1) (List.mem_singleton.mpr rfl) ok.room.hd ok.room.depth).imp fun i v => ys_bool) _ 0 s5 rfl (Nat.zero_le _) st fun s6 g6 => ?_⟩
  obtain ⟨H', F', I6, e6, S6⟩ := made_back e2 I3 hf g6
  exact ⟨.bl _, H', I6, by rw [List.drop_zero]; rfl, F', e6, rfl, S6⟩
end
end
end Sp
set_option maxHeartbeats 4000000
namespace Sp
open PySem L2
open PySem.W (Datum DatumOrd SomeDatum)
def SumOk (ys : List Int) : Prop := ∀ j : Nat, j < ys.length → InLong (ys.getD j 0) ∧ InLong ((ys.take (j + 1)).sum)
section
variable {prog : Program} {w : World} {A : Around} {a T0 : Addr} {S : List Addr} {St : Nat → Shared → Prop} {D : Shared → Prop} {R : Result → Shared → Prop}
theorem sum_go {ys : List Int} (hT : T0 ∈ S) (W : SW prog w A.in1 a S ys.length St (fun i v => ∃ y, ys[i]? = some y ∧ RelV (V.int y) v) D) (hfit : SumOk ys)
    (up : ∀ i s x c tk, St i s → s.heap.get? T0 = some { cls := .type "list", dict := none, data := .seq x c, slots := #[] } → ∀ f, St i { s with heap := s.heap.update T0 (Obj.mapSeq f), toks := tk }) :
    ∀ (k i : Nat) (s : Shared) (tot : Int) (tA : Tok) (c : Nat), tot = (ys.take i).sum → ys.length - i = k → i ≤ ys.length → St i s → s.heap.get? T0 = some { cls := .type "list", dict := none, data := .seq #[.int tot tA] c, slots := #[] } →
    (∀ s' t', D s' → R (.ok (.ret (.int ys.sum t'))) s') → codeAny (model prog w) A (.builtin "sum.loop" ⟨[.ref a, .ref T0, rawInt 0, rawInt 0], []⟩) R s := by
  intro k
  induction k with
  | zero =>
    intro i s tot tA c htot hk hi hst hS hR
    subst htot
    obtain rfl : i = ys.length := by omega
    rw [List.take_length] at hS
    refine codeAny_builtin F.entry_sum_loop ?_
    rw [Around.under_plainId F.plain_sum_loop _]
    show wpAny _ A.in1 (seqItems? (.ref T0) >>= _) _ _ s
    refine wpAny_bind (wpAny_seqItems hS rfl ?_)
    show wpAny _ A.in1 (tryCatch (pyNext (.ref a)) _ >>= _) _ _ s
    exact wpAny_bind (wpAny_tryCatch (W.done s _ _ hst fun s' hm => wpAny_pure (hR s' tA hm)))
  | succ k ih =>
    intro i s tot tA c htot hk hi hst hS hR
    subst htot
    have hlt : i < ys.length := by omega
    refine codeAny_builtin F.entry_sum_loop ?_
    rw [Around.under_plainId F.plain_sum_loop _]
    show wpAny _ A.in1 (seqItems? (.ref T0) >>= _) _ _ s
    refine wpAny_bind (wpAny_seqItems hS rfl ?_)
    show wpAny _ A.in1 (tryCatch (pyNext (.ref a)) _ >>= _) _ _ s
    refine wpAny_bind (wpAny_tryCatch (W.item i s _ _ hlt hst fun v s' ⟨y, hy, t, ev⟩ hst' kp => ?_))
    subst ev
    have hS' := kp T0 hT _ hS
    obtain ⟨⟨f1, f2⟩, f3, f4⟩ := hfit i hlt
    have e1 : ys.getD i 0 = y := by rw [List.getD_eq_getElem?_getD, hy]; rfl
    have e2 : (ys.take (i + 1)).sum = (ys.take i).sum + y := by rw [List.take_add_one, hy, Option.toList_some, List.sum_append]; simp
    rw [e1] at f1 f2
    rw [e2] at f3 f4
    have hc : ((decide (-(2 ^ 63) ≤ y) && decide (y < 2 ^ 63)) && (decide (-(2 ^ 63) ≤ (ys.take i).sum + y) && decide ((ys.take i).sum + y < 2 ^ 63))) = true := by
      simp only [Bool.and_eq_true, decide_eq_true_eq]
      exact ⟨⟨f1, f2⟩, f3, f4⟩
    show wpAny _ A.in1 (if (_ : Bool) = true then (mkInt ((ys.take i).sum + y) >>= _) else _) _ _ _
    split
    · refine wpAny_bind (wpAny_mkInt ?_)
      show wpAny _ A.in1 (updateSeq T0 (fun _ => #[.int ((ys.take i).sum + y) s'.toks]) >>= _) _ _ _
      refine wpAny_bind (wpAny_updateSeq hS' rfl (wpAny_pure ⟨plainId_quiet F.plain_sum_loop _, ih (i + 1) _ _ s'.toks _ e2.symm (by omega) hlt (up _ s' _ _ _ hst' hS' _) (Heap.get?_update_self _ hS' rfl) hR⟩))
    · rename_i hneg
      exact absurd hc hneg
end
section
variable {Y : DX} {k : Nat} {scope : Scope} {ow : Ow} {s : DSt} {σ : St} {β : Type} [Enc β]
variable {vs ws : List Nat} {tg elt iter : Expr} {ifs : List Expr} {g : TG} {f : β → Rho → Rho} {items : List β} {c : β → Bool} {gpos pos p : Pos}
theorem evp_sumG {h : β → Int} (ok : YOk Y) (B : Bis Y.X.mg) (hg : Gl Y.X "sum") (hk : k + 2 ≤ Y.k) (hi : EvIt Y s tg iter items) (G : GenOk Y.X.N Y.X.env.scope scope vs) (tb : TbG Y.X Y.T (Y.X.env.qual ++ "<genexpr>") gpos ow)
    (L : GTurns Y k s scope ow vs tg elt ifs g ws f items c h) (hfit : SumOk ((items.filter c).map h)) (hs : ∀ x, genFold iter Y.X.env x = pure x := by intro _; rfl)
    (he : starEach [.GeneratorExp elt [⟨tg, iter, ifs, 0⟩] scope gpos] Y.X.env = (false, eval (.GeneratorExp elt [⟨tg, iter, ifs, 0⟩] scope gpos) Y.X.env) :: starEach [] Y.X.env := by rfl) :
    EvP Y s (.Call (.Name "sum" p) [.GeneratorExp elt [⟨tg, iter, ifs, 0⟩] scope gpos] [] pos) (pu ((items.filter c).map h).sum) := fun F0 σ H F e0 S => by
  refine ⟨fun pins s0 I => ?_⟩
  refine wpAny_Call_Name_kw (ld_blt I hg (B.no _ (by decide)) PyProof.Rows.boot_sum ?_)
  refine PyProof.Rows.callWith_builtin1 ?_ he (by rfl)
  rw [he]
  show wpAny _ _ (spliced ((false, eval (.GeneratorExp elt [⟨tg, iter, ifs, 0⟩] scope gpos) Y.X.env) :: backTo pos (starEach [] Y.X.env))) _ _ s0
  refine Calls.spliced_cons (gen_made ok hk hi G tb L hs e0 S I fun a s5 M => ?_)
  obtain ⟨z, F2, gn, e2, I3, hf, hgn, st⟩ := M.go
  obtain ⟨oa, _, _, hoa, _, hda, _⟩ := id hgn
  refine Calls.spliced_nil ?_
  refine call_function_tree PySem.F.kind_sum PySem.F.plain_sum PySem.F.entry_sum (PySem.F.args_sum1 _) ?_
  unfold Builtin.«sum»
  simp only [List.length_cons, List.length_nil]
  rw [if_neg (by decide)]
  refine wpAny_bind (wpAny_of_eq (show Builtin.Builtins.bindParams "sum" ["start"] 0 { } = pure [none] from rfl) ?_)
  refine wpAny_bind (wpAny_pyIter_gen hgn ?_)
  refine wpAny_bind (wpAny_mkInt (wpAny_bind (wpAny_pure ?_)))
  simp only [List.forIn_cons, List.forIn_nil]
  refine wpAny_bind (wpAny_bind (wpAny_bind (wpAny_isInstance (T := "int") (b := false) (typeIs_int _ _ _) PySem.F.sub_int_str ?_)))
  simp only [Bool.false_eq_true, if_false]
  refine wpAny_pure (wpAny_bind (wpAny_bind (wpAny_isInstance (T := "int") (b := false) (typeIs_int _ _ _) PySem.F.sub_int_bytes ?_)))
  simp only [Bool.false_eq_true, if_false]
  refine wpAny_pure (wpAny_bind (wpAny_bind (wpAny_isInstance (T := "int") (b := false) (typeIs_int _ _ _) PySem.F.sub_int_bytearray ?_)))
  simp only [Bool.false_eq_true, if_false]
  refine wpAny_pure (wpAny_pure (wpAny_bind (wpAny_newObj_type ?_)))
  generalize hs6 : ({ s5 with toks := s5.toks + 1, heap := s5.heap.push { cls := .type "list", data := .seq #[.int 0 s5.toks] } } : Shared) = s6
  have kp6 : ∀ b o, s5.heap.get? b = some o → s6.heap.get? b = some o := fun b o e => by rw [← hs6]; exact Heap.get?_push_of_some _ e
  have hT6 : s6.heap.get? s5.heap.objs.size = some { cls := .type "list", data := .seq #[.int 0 s5.toks] } := by rw [← hs6]; exact Heap.get?_push_size _ rfl
  have hal : a < s5.heap.objs.size := Heap.lt_size hoa
  obtain ⟨ap, st6⟩ := st [a, s5.heap.objs.size] s6 (by simp) (fun b hb => by
    rcases List.mem_cons.mp hb with q | q
    · exact .inl q
    · exact .inr (by rw [List.mem_singleton.mp q]; exact Nat.le_refl _)) (by rw [← hs6]) (by rw [← hs6]) kp6 (fun b hb => by
    rcases List.mem_cons.mp hb with q | q
    · exact ⟨oa, by rw [q]; exact kp6 _ _ hoa, fun v q => by rw [hda] at q; cases q⟩
    · exact ⟨_, by rw [List.mem_singleton.mp q]; exact hT6, fun v q => by cases q⟩)
  refine wpAny_pure ⟨plainId_quiet PySem.F.plain_sum_loop _, sum_go (A := Y.X.A) (T0 := s5.heap.objs.size) (S := [a, s5.heap.objs.size]) (by simp) ((gen_sw (A := Y.X.A.in1) (by simp) ok.room.hd ok.room.depth)) hfit (fun i s7 x c7 tk st7 h7 f => ?_) _ 0 s6 0 s5.toks 0 (by simp) rfl (Nat.zero_le _) st6 hT6 fun s8 t8 g8 => ?_⟩
  · obtain ⟨gs, q1, q2, q3, q4, q5⟩ := id st7
    refine st7.aw ap ⟨rfl, q3.bare, fun b o hb e => ?_, fun b hb => ?_⟩ rfl fun o e => ?_
    · exact (Heap.get?_update_other _ _ (fun q => hb (by rw [← q]; simp))).trans e
    · by_cases q : b = s5.heap.objs.size
      · rw [q]
        exact ⟨_, Heap.get?_update_self _ h7 rfl, fun v q => by cases q⟩
      · obtain ⟨o, e, hc⟩ := q4 b hb
        exact ⟨o, (Heap.get?_update_other _ _ (Ne.symm q)).trans e, hc⟩
    · exact (Heap.get?_update_other _ _ (Nat.ne_of_gt hal)).trans e
  · obtain ⟨H', F', I6, e6, S6⟩ := made_back e2 I3 hf g8
    exact ⟨.int _, H', I6, ⟨_, rfl⟩, F', e6, rfl, S6⟩
end
end Sp
set_option maxHeartbeats 4000000
namespace Sp
open PySem L2
abbrev TQ := List (He.Defn × Tk)
def tbOf (K : Frag) (tq : TQ) : Tb := tq.map fun p => ((He.cT K p.1).2, p.2)
structure LK (w : World) (K : Frag) (mg : Str → Option Value) (base : Heap) (fa : List He.Fa) (fn : List He.DefD) (tq : TQ) : Prop where
  d : He.SaysD fa fn K
  X : K.In base
  G : base.Ns mainGlobals mg
  tb : ∀ p ∈ tq, LamX.TabB base mg (He.cT K p.1).1 (He.cT K p.1).2
  nd : (tq.map fun p => (He.cT K p.1).2).Nodup
section
variable {P : Program} {w : World} {K : Frag} {mg : Str → Option Value} {base : Heap} {fa : List He.Fa} {fn : List He.DefD} {tq : TQ}
structure Fd (K : Frag) (d : He.DefD) (ps : List Str) (fd : FuncData) : Prop where
  F : FunD K d.name d.qual d.params d.body d.scope [] [] (He.fAd K d.at_) fd
  b : Binds K fd ps []
theorem nd_map {α β : Type} {f : α → β} : ∀ {l : List α}, (l.map f).Nodup → ∀ {a b : α}, a ∈ l → b ∈ l → f a = f b → a = b
  | [], _, _, _, h, _, _ => by cases h
  | x :: l, n, a, b, ha, hb, e => by
    rw [List.map_cons, List.nodup_cons] at n
    rcases List.mem_cons.mp ha with ha' | ha'
    · rcases List.mem_cons.mp hb with hb' | hb'
      · rw [ha', hb']
      · rw [ha'] at e
        exact absurd (by rw [e]; exact List.mem_map_of_mem hb') n.1
    · rcases List.mem_cons.mp hb with hb' | hb'
      · rw [hb'] at e
        exact absurd (by rw [← e]; exact List.mem_map_of_mem ha') n.1
      · exact nd_map n.2 ha' hb' e
theorem df_ok {k : Nat} {N ps : List Str} {d : He.DefD} {fd : FuncData} (L : LK w K mg base fa fn tq) (F1 : Fd K d ps fd) (S : FnScope N ps d.scope) (dd : DSp) (hl : ∀ As gs R E, dd As gs R E → As.length = ps.length)
    (body : ∀ (cdv : Value) (A : Around) (outer : List Env) (s : Shared) (H F : Hp) (gs : Gs) (E : XK) (ex : Exc → DSt → Prop) (As : List Pv) (R : Pv → Gs → Prop) (X : Exc → Gs → Prop), dd As gs R X → (∀ e s', (∃ n, X e (s'.gs.drop n)) → ex e s') →
      (∀ q, (d.at_, q) ∈ tq → Tbl (bodyY P w K mg base (tbOf K tq) k N d.qual d.scope (He.fAd K d.at_) cdv A outer s H F gs E ex).X (tbOf K tq) q) →
      YOk (bodyY P w K mg base (tbOf K tq) k N d.qual d.scope (He.fAd K d.at_) cdv A outer s H F gs E ex) →
      Ws (bodyY P w K mg base (tbOf K tq) k N d.qual d.scope (He.fAd K d.at_) cdv A outer s H F gs E ex) ⟨As.map some ++ List.replicate (N.length - ps.length) none, gs⟩ d.body { nx := fun s' => ∃ n, R (pu ()) (s'.gs.drop n), rt := fun A s' => ∃ n, R A (s'.gs.drop n) }) :
    FnOk P w K mg base (L2.CX P w) (k + 1) (He.fAd K d.at_) fd ps (toSp K (tbOf K tq) ps.length dd) := by
  obtain ⟨oc, od, dV, kV, doc, pm, an, cdv, ct, osl, rfl, lk, hcd, _, _⟩ := F1.F.ex
  obtain ⟨c, rfl⟩ := He.codeIn_ref hcd
  have ec : He.codeOf K d.at_ = c := He.codeOf_eq lk rfl
  refine fn_of lk hcd S (fun vs H Q E h => h.1) fun A outer s H vs Q E hr h => ?_
  obtain ⟨hn, As, gs, F, r, G, hd⟩ := h
  have hAl := hl _ _ _ _ hd
  let Y : DX := bodyY P w K mg base (tbOf K tq) k N d.qual d.scope (He.fAd K d.at_) (.ref c) A outer s H F gs E (fun e s' => ∀ cls dd H' F', ExcRep e cls dd H' → Stg K (tbOf K tq) s'.gs H' F' → Step H F (ads gs) H' F' (ads s'.gs) → E cls dd H')
  have tk0 : Takes Y.X (fun cls d _ H => E cls d H) := takes_of rfl rfl rfl rfl
  have ok : YOk Y := ⟨rfl, S.nd, hr, passes_of rfl, tk0.imp fun c d' σ H' ⟨e, s', F', St, er, q⟩ => q c d' H' F' er St.stg St.st⟩
  have tbl : ∀ q, (d.at_, q) ∈ tq → Tbl Y.X (tbOf K tq) q := fun q hq => by
    have h1 := L.tb _ hq
    have e1 : (He.cT K d.at_).1 = c := ec
    refine ⟨c, (He.cT K d.at_).2, by rw [← e1]; exact h1, rfl, List.mem_map.mpr ⟨_, hq, rfl⟩, fun p hp e => ?_⟩
    obtain ⟨z, hz, ez⟩ := List.mem_map.mp hp
    subst ez
    have := nd_map L.nd hz hq e
    rw [this]
  have b := body (.ref c) A outer s H F gs E _ As _ _ hd (fun e s' ⟨n, q⟩ cls dd H' F' r G' t' => q cls dd H' F' r (G'.drop n) (t'.sub (ads_drop n))) tbl ok
  refine ⟨_, pss_ws, ?_⟩
  have S0 : Sta Y ⟨As.map some ++ List.replicate (N.length - ps.length) none, gs⟩ (L2.start N vs) H F := by
    refine ⟨G.ext, G.ntb, ?_, G.own, G.nd, G.tb, Step.refl⟩
    unfold L2.start
    rw [hn]
    exact reps_start r _
  refine (b F (L2.start N vs) H F (.refl _) S0).mono (fun σ' H' ⟨s', F', e1, S', q⟩ => ?_) (fun v H' ⟨A', s', σ', F', e1, r', S', q⟩ => ?_) (fun σ' H' ⟨s', F', e1, S', q⟩ => q.elim) (fun σ' H' ⟨s', F', e1, S', q⟩ => q.elim)
  · obtain ⟨n, q⟩ := q
    exact q .non H' F' rfl (S'.stg.drop n) (S'.st.sub (ads_drop n))
  · obtain ⟨n, q⟩ := q
    exact q v H' F' r' (S'.stg.drop n) (S'.st.sub (ads_drop n))
theorem LK.fd (c : He.SaysD fa fn K) (i : Nat) {d : He.DefD} (ps : List Str) (h : fn[i]? = some d := by rfl)
    (hb : ∀ (kV doc pm : Value) (an : Option Addr) (cdv ct : Value) (us : List Value), us.length = ps.length → bindArgs (PySem.W.fnOf d.name d.qual d.params d.body d.scope .none kV doc pm an cdv ct) ⟨us, []⟩ = pure (ps.zip us)) (h0 : ∀ K, d.dvs K = [] := by intro _; rfl) (h1 : ∀ K, d.kws K = [] := by intro _; rfl) : ∃ fd, Fd K d ps fd := by
  obtain ⟨fd, F⟩ := c.def_ i h
  rw [h0, h1] at F
  exact ⟨fd, F, F.bindsN hb⟩
theorem LK.df {k : Nat} {x : Str} {d : He.DefD} {ps : List Str} {fd : FuncData} {dd : DSp} (L : LK w K mg base fa fn tq) (F1 : Fd K d ps fd) (h : FnOk P w K mg base (L2.CX P w) k (He.fAd K d.at_) fd ps (toSp K (tbOf K tq) ps.length dd)) (m : DMono dd) (i : Nat) (hi : fa[i]? = some (.glo x) := by rfl) (hx : d.at_ = (x, none) := by rfl) : Df P w K mg base (tbOf K tq) k x ps dd := by
  have g := He.glo_ok L.X L.G (L.d.fact i hi)
  have e : He.fAd K d.at_ = He.ga K x := by rw [hx]; rfl
  exact ⟨⟨_, fd, h, by rw [e]; exact g, F1.F.kp, F1.b⟩, m⟩
theorem LK.mt {k : Nat} {x m : Str} {d : He.DefD} {ps : List Str} {fd : FuncData} {dd : DSp} (L : LK w K mg base fa fn tq) (F1 : Fd K d ps fd) (h : FnOk P w K mg base (L2.CX P w) k (He.fAd K d.at_) fd ps (toSp K (tbOf K tq) ps.length dd)) (mo : DMono dd) (i : Nat) (hi : fa[i]? = some (.meth x m) := by rfl) (hx : d.at_ = (x, some m) := by rfl) : Mt P w K mg base (tbOf K tq) k (He.ga K x) m ps dd := by
  have g := He.meth_ok (L.d.fact i hi)
  have e : He.fAd K d.at_ = He.ma K (He.ga K x) m := by rw [hx]; rfl
  exact ⟨⟨_, fd, h, by rw [e]; exact g, F1.b⟩, mo⟩
theorem LK.mkr {k : Nat} {x : Str} {d : He.DefD} {ps : List Str} {fd : FuncData} {dd : DSp} (L : LK w K mg base fa fn tq) (F1 : Fd K d ps fd) (h : FnOk P w K mg base (L2.CX P w) k (He.fAd K d.at_) fd ps (toSp K (tbOf K tq) ps.length dd)) (mo : DMono dd) (i j : Nat) (hi : fa[i]? = some (.mkr x) := by rfl) (hj : fa[j]? = some (.glo x) := by rfl) (hx : d.at_ = (x, some ("__init__" : Str)) := by rfl) : Mkr P w K mg base (tbOf K tq) k x (He.ga K x) ps dd := by
  have g := He.mkr_ok (L.d.fact i hi)
  have e : He.fAd K d.at_ = He.ma K (He.ga K x) "__init__" := by rw [hx]; rfl
  exact ⟨⟨_, fd, h, by rw [e]; exact g, F1.b⟩, He.glo_ok L.X L.G (L.d.fact j hj), mo⟩
theorem LK.err {x : Str} (L : LK w K mg base fa fn tq) (i j : Nat) (hi : fa[i]? = some (.exc x) := by rfl) (hj : fa[j]? = some (.glo x) := by rfl) : ErrC K mg x (He.ga K x) := by
  obtain ⟨h1, h2, h3, h4⟩ := He.exc_ok (L.d.fact i hi)
  exact ⟨He.glo_ok L.X L.G (L.d.fact j hj), h1, h2, h3, h4⟩
def noTb (H : Hp) : Hp := fun b => match H b with
  | some o => (match isTbl o with
    | true => none
    | false => some o)
  | none => none
theorem noTb_some {H : Hp} {b : Addr} {o : HO} (h : noTb H b = some o) : H b = some o ∧ isTbl o = false := by
  unfold noTb at h
  cases q : H b with
  | none => rw [q] at h; cases h
  | some u =>
    rw [q] at h
    cases t : isTbl u with
    | true =>
      simp only [t] at h
      cases h
    | false =>
      simp only [t] at h
      cases h
      exact ⟨rfl, t⟩
theorem noTb_of {H : Hp} {b : Addr} {o : HO} (h : H b = some o) (t : isTbl o = false) : noTb H b = some o := by
  unfold noTb
  rw [h]
  simp only [t]
theorem law_end {l : PySem.W.OpenLaw} {n k : Nat} {h : Heap} {x : Str} {fA : Addr} {ts : List He.Tab} {ex : Frag → Bool} {d : He.DefD} {fd : FuncData} {dd : DSp}
    (KX : K.In h) (c : He.SaysX fa fn ts (tq.map (·.1)) ex w h K) (nd : (tq.map fun p => (He.cT K p.1).2).Nodup)
    (F1 : Fd K d [x] fd) (hf : He.fAd K d.at_ = fA) (hb : ∀ (kV doc pm : Value) (an : Option Addr) (cdv ct : Value) (us : List Value), us.length = [x].length → bindArgs (PySem.W.fnOf d.name d.qual d.params d.body d.scope .none kV doc pm an cdv ct) ⟨us, []⟩ = pure ([x].zip us))
    (m : DMono dd) (hd : ∀ ns : List Int, ns.length ≤ n → (∀ z ∈ ns, Builtin.Int.intBits z ≤ 1048576) → dd [pu ns] [] (fun A _ => A = pu true) fun _ _ => False)
    (F : ∀ base : Heap, LK w K mg base fa fn tq → FnOk l.prog w K mg base (L2.CX l.prog w) k (He.fAd K d.at_) fd [x] (toSp K (tbOf K tq) 1 dd)) (ho : (tq.all fun p => match p.2 with | .own => false | _ => true) = true := by rfl) :
    LamX.LawAtS l w K (L2.CX l.prog w) k n x mg fA h := by
  subst hf
  refine ⟨fd, (tq.map (·.1)).map (He.cT K), _, fun p hp => ?_, fun p hp => ?_, fun p hp => ?_, fun s u => ?_, fun H a ns hl hbits hT hS => ?_, fun base KB GB TB => F base ⟨c.t.d, KB, GB, fun p hp => TB _ ?_, nd⟩⟩
  · obtain ⟨q, hq, e⟩ := List.mem_map.mp hp
    subst e
    exact c.empty q hq
  · obtain ⟨q, hq, e⟩ := List.mem_map.mp hp
    subst e
    exact c.out q hq
  · obtain ⟨q, hq, e⟩ := List.mem_map.mp hp
    subst e
    exact PySem.W.codeHd_of_K KX (c.hd q hq)
  · exact F1.F.bindsA hb s [u] rfl
  · refine ⟨rfl, [pu ns], [], noTb H, .cons ?_ .nil, ⟨fun b o e => (noTb_some e).1, fun b o e => (noTb_some e).2, fun p hp => (by cases hp), .nil, fun p hp => ?_⟩, ?_⟩
    · refine ⟨a, ns.map V.int, rfl, ?_, ?_⟩
      · rcases hS with hS | q
        · rcases hS with q | ⟨o, q⟩
          · exact .inl (.inl (noTb_of q rfl))
          · exact .inl (.inr ⟨o, noTb_of q rfl⟩)
        · exact .inr q
      · show Paired _ _ _
        clear hd hl hbits hS
        induction ns with
        | nil => exact .nil
        | cons z ns ih => exact .cons rfl ih
    · obtain ⟨q, hq, e⟩ := List.mem_map.mp hp
      subst e
      have h0 : H (He.cT K q.1).2 = some (.tbl #[]) := hT (He.cT K q.1) (List.mem_map.mpr ⟨q.1, List.mem_map.mpr ⟨q, hq, rfl⟩, rfl⟩)
      have hk := List.all_eq_true.mp ho q hq
      obtain ⟨d, k⟩ := q
      cases k with
      | plain z => exact LamX.TabS.nil h0
      | nest z9 => exact ⟨#[], h0, trivial, fun pos cv h => by
          have h : codeAmong pos [] = some cv := h
          cases h⟩
      | own => cases hk
      | mix ls z => exact ⟨#[], h0, trivial, fun pos cv h => by
          have h : codeAmong pos [] = some cv := h
          cases h⟩
    · exact m _ _ _ _ _ _ (fun A g e v H' F' r _ _ => by subst e; exact r) (fun e g z => z.elim) (hd ns hl hbits)
  · exact List.mem_map.mpr ⟨p.1, List.mem_map.mpr ⟨p, hp, rfl⟩, rfl⟩
end
end Sp
set_option maxHeartbeats 4000000
namespace Sp
open PySem L2
section
variable {Y : DX} {s : DSt} {e a b c d o : Expr} {es : List Expr} {pos p apos : Pos} {Q : Pv → DSt → Prop} {D : DE} {A B : Pv}
theorem w1_lput {α : Type} [Enc α] {q : Addr} {p2 : Pos} (i : Nat)
    (hv : Ev Y s e fun X s1 => ∃ (x : α) (xs : List α) (k : Int) (j : Nat), X = pu x ∧ s1.gs[i]? = some (q, lstc xs) ∧ EvP Y s1 a (raw (.ref q)) ∧ EvP Y s1 b (pu k) ∧ ixN xs.length k = some j ∧ D.nx ⟨s1.ρ, s1.gs.set i (q, lstc (xs.set j x))⟩)
    (hs : swapsWithSole [Expr.Subscript a b p2] e pos.line Y.X.env = pure false := by rfl) (hw : swappedStores [Expr.Subscript a b p2] e Y.X.env = pure none := by rfl) (h1 : (assignEach [Expr.Subscript a b p2] Y.X.env).map (·.2) = [assign (Expr.Subscript a b p2) Y.X.env] := by rfl)
    (ha : ∀ v, assign (.Subscript a b p2) Y.X.env v = (do
      let ov ← holding [v] (eval a Y.X.env)
      let iv ← holding [v, ov] (eval b Y.X.env)
      standAt p2
      holding [v, ov, iv] (setItem ov iv v)
      release [v, ov, iv] []) := by intro _; rfl) : W1 Y s (.Assign [.Subscript a b p2] e pos) D := fun F0 σ H F e0 S => by
  refine .of (ps_asg pe_we (pg_sub pe_we pe_we set_list ha) hs hw h1) ?_
  refine (hv F σ H F (.refl _) S).mono fun v H1 ⟨X, s1, F1, e1, r1, S1, x, xs, k, j, ex, hi, ho, hb, hj, k1⟩ => ?_
  subst ex
  refine (ho F1 σ H1 F1 (.refl _) S1).mono fun u H2 ⟨F2, e2, r2, S2⟩ => ?_
  refine (hb F2 σ H2 F2 (.refl _) S2).mono fun w H3 ⟨F3, e3, r3, S3⟩ => ?_
  obtain ⟨hF, oo, hoo, _, zs, eo, rv⟩ := S3.cell hi
  subst eo
  refine ⟨q, zs, k, j, r2, r3, hoo, by rw [show zs.length = xs.length from Paired.length rv]; exact hj, _, F3, ((e0.trans e1).trans e2).trans e3, ?_, k1⟩
  exact S3.write (c' := lstc (xs.set j x)) hi hoo (not_codeL rfl) rfl ⟨_, rfl, prd_set rv (Enc.mono (α := α) r1 (e2.trans e3)) j⟩
theorem evp_int1 {i : Int} (T : Bis Y.X.mg) (hg : Gl Y.X "int") (ha : EvP Y s a (pu i)) (he : starEach [a] Y.X.env = (false, eval a Y.X.env) :: starEach [] Y.X.env := by rfl) : EvP Y s (.Call (.Name "int" p) [a] [] pos) (pu i) :=
  evp_T1 call_int1 hg (T.no _ (by decide)) PySem.Pv.boot_int ha (fun F0 σ H F v e0 S h1 => .inl ⟨i, by cases h1; rfl, F, e0, rfl, S⟩) (by decide) (by decide) he
theorem evp_intB {x : Bool} (T : Bis Y.X.mg) (hg : Gl Y.X "int") (ha : EvP Y s a (pu x)) (he : starEach [a] Y.X.env = (false, eval a Y.X.env) :: starEach [] Y.X.env := by rfl) : EvP Y s (.Call (.Name "int" p) [a] [] pos) (pu (if x = true then (1 : Int) else 0)) :=
  evp_T1 call_int1 hg (T.no _ (by decide)) PySem.Pv.boot_int ha (fun F0 σ H F v e0 S h1 => .inr ⟨x, by cases h1; rfl, F, e0, rfl, S⟩) (by decide) (by decide) he
theorem etp_ltlt {i j k : Int} (ha : EvP Y s a (pu i)) (hb : EvP Y s b (pu j)) (hc : EvP Y s c (pu k)) (hm : lastMarks [.Lt, .Lt] [b, c] = false := by with_unfolding_all rfl) : EtP Y s (.Compare a [.Lt, .Lt] [b, c] pos) (decide (i < j) && decide (j < k)) := fun F0 σ H F e0 S => by
  refine .of (pt_chain op_lt op_lt pe_we pe_we pe_we hm) ?_
  refine (ha F0 σ H F e0 S).mono fun v H1 ⟨F1, e1, r1, S1⟩ => ?_
  refine (hb F1 σ H1 F1 (.refl _) S1).mono fun u H2 ⟨F2, e2, r2, S2⟩ => ?_
  refine ⟨i, j, r1, r2, _, rfl, ?_⟩
  by_cases h : i < j
  · rw [if_pos (decide_eq_true h)]
    refine (hc F2 σ H2 F2 (.refl _) S2).mono fun w H3 ⟨F3, e3, r3, S3⟩ => ?_
    exact ⟨j, k, r2, r3, _, rfl, by simp [h], F3, ((e1.trans e2).trans e3), S3⟩
  · rw [if_neg (by simpa using h)]
    exact ⟨false, rfl, by simp [h], F2, e1.trans e2, S2⟩
theorem ev_perm (h : Ev Y s e fun A s' => ∃ gs', s'.gs.Perm gs' ∧ Q A ⟨s'.ρ, gs'⟩) : Ev Y s e Q := fun F0 σ H F e0 S => (h F0 σ H F e0 S).mono fun v H1 ⟨A, s1, F1, e1, r1, S1, gs', hp, q⟩ => ⟨A, _, F1, e1, r1, S1.perm hp, q⟩
theorem ws_perm {sts : List Stmt} {gs' : Gs} (hp : s.gs.Perm gs') (h : Ws Y ⟨s.ρ, gs'⟩ sts D) : Ws Y s sts D := fun F0 σ H F e0 S => h F0 σ H F e0 (S.perm hp)
end
end Sp
set_option maxHeartbeats 4000000
namespace Sp
open PySem L2
section
variable {Y : DX} {s : DSt} {e a b c d o tg iter elt : Expr} {es ifs : List Expr} {pos p apos : Pos} {Q : Pv → DSt → Prop} {D : DE} {A B : Pv} {scope : Scope} {own : List (Str × Nat)}
variable {α β : Type} [Enc α] [Enc β]
def EvItE (Y : DX) (s : DSt) (tg iter : Expr) {β : Type} [Enc β] (G : List β → DSt → Prop) : Prop :=
  ∃ wi, PI Y.X tg iter wi ∧ ∀ F0 σ H F (R : It → Hp → Prop), Ext F0 F → Sta Y s σ H F → (∀ J H' F' items s', Ext F0 F' → Sta Y s' σ H' F' → ItOk Y.X.K J F' items → G items s' → R J H') → wi σ H R
theorem it_listE {G : List α → DSt → Prop} (h : Ev Y s iter fun A s' => ∃ xs : List α, A = pu xs ∧ G xs s') : EvItE Y s tg iter G :=
  ⟨_, pi_list pe_we, fun F0 σ H F R e0 S k => (h F0 σ H F e0 S).mono fun v H' ⟨A, s', F', e1, r, S', xs, ea, q⟩ => by
    subst ea
    obtain ⟨p, vs, ev, hq, rv⟩ := r
    exact ⟨p, ev, ⟨vs, sqL_ext hq S'.ext⟩, k _ _ F' xs s' e1 S' (fun i H2 F2 e2 e3 => ⟨fun x hx => by
      have hq2 := sqL_ext (sqL_ext hq e2) e3
      obtain ⟨w, hw, rw'⟩ := prd_get rv hx
      exact ⟨⟨vs, w, hq2, hw⟩, fun v H3 ⟨eh, hv⟩ => .inl ⟨eh, by
        have := hv vs hq2
        rw [hw] at this
        cases this
        exact Enc.mono rw' e2⟩⟩, fun hl => ⟨vs, sqL_ext (sqL_ext hq e2) e3, by rw [rv.length]; exact hl⟩⟩) q⟩⟩
theorem w1_forE {body : List Stmt} {g : TG} {ws : List Nat} {f : β → Rho → Rho} {G : List β → DSt → Prop} (ok : YOk Y) (hi : EvItE Y s tg iter G) (hg : TgOk Y tg g ws f)
    (h : ∀ items s', G items s' → ∃ Iv : Nat → DSt → Prop, Iv 0 s' ∧ (∀ i x s2, items[i]? = some x → Iv i s2 → Ws Y ⟨f x s2.ρ, s2.gs⟩ body { D with nx := Iv (i + 1), ct := Iv (i + 1), bk := D.nx }) ∧ ∀ s2, Iv items.length s2 → D.nx s2)
    (hs : ∀ x, foldedSetIterable iter Y.X.env x = pure x := by intro _; rfl) : W1 Y s (.For tg iter body [] pos) D := fun F0 σ H F e0 S => by
  obtain ⟨wi, hp, hw⟩ := hi
  refine .of (ps_for ok.pass ok.calm hp hg.1 pss_ws hs) ?_
  refine hw F0 σ H F _ e0 S fun J H1 F1 items s' e1 S1 K1 q => ?_
  obtain ⟨Iv, h0, hstep, hd⟩ := h items s' q
  refine ⟨fun i m σ H => m = items.length - i ∧ i ≤ items.length ∧ ∃ s2 F2, Ext F1 F2 ∧ Sta Y s2 σ H F2 ∧ Iv i s2, ⟨items.length, rfl, Nat.zero_le _, s', F1, .refl _, S1, h0⟩, ?_⟩
  rintro i m σ2 H2 ⟨rfl, hi, s2, F2, e2, S2, iv⟩
  by_cases hlt : i < items.length
  · have hx : items[i]? = some items[i] := List.getElem?_eq_getElem hlt
    refine .inr ⟨((K1 i H2 F2 e2 S2.ext).1 _ hx).1, fun σ' H' => ∃ s3 F3, Ext F1 F3 ∧ Sta Y s3 σ' H' F3 ∧ Iv (i + 1) s3, fun σ' H' ⟨s3, F3, e3, S3, iv3⟩ => ⟨items.length - (i + 1), by omega, rfl, hlt, s3, F3, e3, S3, iv3⟩, fun v H3 y => ?_⟩
    obtain ⟨F3, e3, S3, r3⟩ := K1.yld e2 S2 hx y
    refine hg.2 σ2 H3 F3 v _ s2 _ S3 r3 fun σ4 S4 _ => ?_
    have e9 := (e1.trans e2).trans e3
    exact (hstep i _ s2 hx iv F3 σ4 H3 F3 (.refl _) S4).mono (fun σ' H' ⟨s5, F5, e5, S5, q⟩ => ⟨s5, F5, (e2.trans e3).trans e5, S5, q⟩) (fun v H' q => q.mono e9 fun _ _ h => h)
      (fun σ' H' q => q.mono e9 fun _ h => h) (fun σ' H' ⟨s5, F5, e5, S5, q⟩ => ⟨s5, F5, (e2.trans e3).trans e5, S5, q⟩)
  · have e : i = items.length := by omega
    subst e
    exact .inl ⟨(K1 _ H2 F2 e2 S2.ext).2 (Nat.le_refl _), s2, F2, e1.trans e2, S2, hd s2 iv⟩
def LcG (Y : DX) (scope : Scope) (vs : List Nat) (tg elt : Expr) (ifs : List Expr) (g : TG) (ws : List Nat) (f : β → Rho → Rho) (G : List β → DSt → Prop) {α : Type} [Enc α] (R : List α → DSt → Prop) : Prop :=
  ∀ items s', G items s' → ∃ Iv : Nat → List α → Gs → Prop, LcTurns Y s' scope vs tg elt ifs g ws f items Iv ∧ Iv 0 [] s'.gs ∧ ∀ ys gs, Iv items.length ys gs → R ys ⟨s'.ρ, gs⟩
theorem ev_lcE {g : TG} {ws : List Nat} {f : β → Rho → Rho} {G : List β → DSt → Prop} (ok : YOk Y) (hi : EvItE Y s tg iter G) (bk : BlkOk Y.X.N Y.X.env.scope scope own) (tg0 : ∀ z, TgOk (blkY Y scope z) tg g ws f) (h : LcG Y scope (own.map (·.2)) tg elt ifs g ws f G (α := α) fun ys s' => Q (pu ys) s')
    (hs : ∀ x, foldedSetIterable iter Y.X.env x = pure x := by intro _; rfl) : Ev Y s (.ListComp elt [⟨tg, iter, ifs, 0⟩] scope pos) Q := fun F0 σ H F e0 S => by
  obtain ⟨wi, hp, hw⟩ := hi
  have P := pe_lc (pos := pos) (tt := fun σ H Q => ∀ z, WTs (blkX Y.X scope z) ifs σ H Q) (te := fun σ H Q => ∀ z, WE (blkX Y.X scope z) elt σ H Q) ok.calm ok.nd hp bk (fun s H C cl fp => (tg0 ⟨s, H, C, cl, fp⟩).1) (fun s H C cl fp => ⟨fun pins s' σ H' Q I h => (h ⟨s, H, C, cl, fp⟩).run pins s' I⟩) (fun s H C cl fp => ⟨fun pins s' σ H' Q I h => (h ⟨s, H, C, cl, fp⟩).run pins s' I⟩) hs
  refine .of P (hw F0 σ H F _ e0 S fun J H1 F1 items s' e1 S1 K1 q => ?_)
  obtain ⟨Iv, L, h0, hQ⟩ := h items s' q
  have t := tlc_ok (own := own) (wi := fun _ _ R => R J H1) (F0 := F1) (σ := σ) (H := H1) (Qf := Po Y σ F0 Q) (fun R k => k J H1 F1 (.refl _) S1 K1) L h0 fun D H' F' ys gs e2 S2 iv => by
    obtain ⟨hF, o, ho, hot, vs, ev, rv⟩ := S2.cell (i := 0) (p := D) (c := lstc ys) rfl
    subst ev
    have S3 := S2.freeze (i := 0) (p := D) (c := lstc ys) rfl ho
    exact ⟨pu ys, ⟨s'.ρ, gs⟩, upd F' D (.lst vs), (e1.trans e2).trans (Ext.grow hF), ⟨D, vs, rfl, .of upd_same, rv.mono (Ext.grow hF)⟩, S3, hQ ys gs iv⟩
  exact t
theorem ev_lcT {g : TG} {ws : List Nat} {f : β → Rho → Rho} {items : List β} (own : List (Str × Nat)) (ok : YOk Y) (hi : EvIt Y s tg iter items) (bk : BlkOk Y.X.N Y.X.env.scope scope own) (tg0 : ∀ z, TgOk (blkY Y scope z) tg g ws f) (Iv : Nat → List α → Gs → Prop) (h0 : Iv 0 [] s.gs)
    (small : ∀ i ys gs, Iv i ys gs → i < items.length → ys.length < sizeLine)
    (step : ∀ z i x ys gs D, items[i]? = some x → Iv i ys gs → Ets (blkY Y scope z) ⟨f x (wipeR s.ρ (own.map (·.2))), (D, lstc ys) :: gs⟩ ifs fun b s2 =>
      if b = true then ∀ z', Ev (blkY Y scope z') s2 elt fun A s3 => ∃ y gs3, A = pu y ∧ s3.gs = (D, lstc ys) :: gs3 ∧ Iv (i + 1) (ys ++ [y]) gs3 else ∃ gs2, s2.gs = (D, lstc ys) :: gs2 ∧ Iv (i + 1) ys gs2)
    (hQ : ∀ ys gs, Iv items.length ys gs → Q (pu ys) ⟨s.ρ, gs⟩) (sub : ∀ j ∈ ws, j ∈ own.map (·.2) := by decide) (hs : ∀ x, foldedSetIterable iter Y.X.env x = pure x := by intro _; rfl) : Ev Y s (.ListComp elt [⟨tg, iter, ifs, 0⟩] scope pos) Q :=
  ev_lc ok hi bk Iv ⟨tg0, sub, small, step⟩ h0 hQ hs
end
end Sp
set_option maxHeartbeats 4000000
namespace Sp
open PySem L2
structure Rf where
  a : Addr
instance : Enc Rf := ⟨fun _ _ v r => v = .ref r.a, fun h _ => h⟩
def blkB (N : List Str) (sc scope : Scope) (own : List (Str × Nat)) : Bool :=
  decide (scope.kind = .function) && scope.names.all (fun y => decide (scope.names.lookup y.1 = some y.2)) && own.all (fun p => decide (N[p.2]? = some p.1)) &&
    scope.names.all (fun y => !decide (y.2 = .free) || (decide (sc.names.lookup y.1 = some .cell) || decide (sc.names.lookup y.1 = some .free))) &&
    scope.names.all (fun y => !(decide (y.2 = .local) || decide (y.2 = .cell)) || (decide (y.1 ∈ own.map (·.1)) || decide (y.1 ∉ N)))
theorem blk_by {N : List Str} {sc scope : Scope} {own : List (Str × Nat)} (h : blkB N sc scope own = true) : BlkOk N sc scope own := by
  unfold blkB at h
  simp only [Bool.and_eq_true] at h
  obtain ⟨⟨⟨⟨h1, h2⟩, h3⟩, h4⟩, h5⟩ := h
  refine ⟨of_decide_eq_true h1, fun y hy => of_decide_eq_true (List.all_eq_true.mp h2 y hy), fun p hp => of_decide_eq_true (List.all_eq_true.mp h3 p hp), fun y hy e => ?_, fun y hy e => ?_⟩
  · have := List.all_eq_true.mp h4 y hy
    simpa [e] using this
  · have := List.all_eq_true.mp h5 y hy
    rcases e with e | e <;> simpa [e] using this
def tx (s : Str) : Txt := s.cps.toList
theorem toStr_tx (s : Str) : toStr (tx s) = s := toStr_of s
section
variable {Y : DX} {s : DSt} {e a b c d o : Expr} {es : List Expr} {pos p apos : Pos} {Q : Pv → DSt → Prop} {D : DE}
theorem evp_own {α : Type} [Enc α] {xs : List α} {n : Int} {x : α} {y : Str} {jj : Nat} {q : Addr} {p1 p2 p3 : Pos} (i g : Nat) (hN : Y.X.N[i]? = some y) (hρ : s.ρ[i]? = some (some (raw (.ref q)))) (hg : s.gs[g]? = some (q, lstc xs)) (hx : atI xs n = some x) (hv : Vis Y.X.env.scope y := by first | exact .inl rfl | exact .inr (.inl rfl) | exact .inr (.inr rfl))
    (hd : (y == ("__debug__" : Str)) = false := by decide) (hcd : (y == ("__classdict__" : Str)) = false := by decide) : EvP Y s (.Subscript (.Name y p1) (.Constant (.int n) jj p2) p3) (pu x) :=
  evp_ixA (fun _ _ => rfl) (evp_var i hN hv hρ hd hcd) (DL.own g hg) evp_int hx
theorem evp_v {A : Pv} {x : Str} (i : Nat) (hN : Y.X.N[i]? = some x) (hA : s.ρ[i]? = some (some A)) (hv : Vis Y.X.env.scope x := by first | exact .inl rfl | exact .inr (.inl rfl) | exact .inr (.inr rfl)) (hd : (x == ("__debug__" : Str)) = false := by decide) (hcd : (x == ("__classdict__" : Str)) = false := by decide) :
    EvP Y s (.Name x pos) A := evp_var i hN hv hA hd hcd
theorem evp_tx {x : Str} {j : Nat} : EvP Y s (.Constant (.str x) j pos) (pu (tx x)) := evp_str (tx x) (toStr_tx x)
end
theorem Tell.no {K : Frag} {c C : Addr} {x t : Txt} {l : Cls_} (h : PySem.W.exmOne K (.ref C) (.ref c) = some false) (r : Tell K l C t) : Tell K ((c, x) :: l) C t := ⟨false, h, (fun e => by cases e), fun _ => r⟩
theorem Tell.yes {K : Frag} {c C : Addr} {x : Txt} {l : Cls_} (h : PySem.W.exmOne K (.ref C) (.ref c) = some true) : Tell K ((c, x) :: l) C x := ⟨true, h, (fun _ => rfl), fun e => by cases e⟩
theorem told_of {X : Cx} {d : He.DefD} {fd : FuncData} {x a : Str} {Ng : List Str} {l : Cls_} {p1 p2 p3 p8 : Pos} {h0 : ExceptHandler} {hds : List ExceptHandler} (F1 : Fd X.K d [a] fd) (hg : X.mg x = some (.ref (He.fAd X.K d.at_))) (hn : d.name = x) (hq : d.qual = x) (S : FnScope Ng [a] d.scope)
    (hb : d.body = [.Try [.Return (some (.Call (.Name a p1) [] [] p2)) p3] (h0 :: hds) [] [] p8]) (hh : HdT X.K X.mg d.scope (h0 :: hds) l) (h1 : Ng[0]? = some a) (hv : Vis d.scope a) (h2 : (a == ("__debug__" : Str)) = false) (h3 : (a == ("__classdict__" : Str)) = false)
    (h4 : ∀ f : Addr, (L2.start Ng [V.ref f])[0]? = some (some (V.ref f))) : Told X x l := by
  obtain ⟨oc, od, dV, kV, doc, pm, an, cdv, ct, osl, e, lk, hcd, _, _⟩ := F1.F.ex
  obtain ⟨b⟩ : Nonempty (PLift True) := ⟨⟨trivial⟩⟩
  have hbn := F1.b
  subst hn
  subst e
  rw [hq] at lk hcd hbn
  rw [hb] at lk hbn
  exact ⟨a, _, _, _, d.scope, dV, kV, doc, pm, cdv, ct, oc, an, od, osl, Ng, hg, F1.F.kp, lk, hcd, hbn, S, h1, hv, h2, h3, fun q => told_many hh h4⟩
end Sp
set_option maxHeartbeats 4000000
namespace Sp
open PySem L2
structure TgD (β : Type) where
  g : Frag → TG
  ws : List Nat
  f : β → Rho → Rho
abbrev TgD.n {α : Type} [Enc α] (i : Nat) : TgD α := ⟨fun _ => gName i, [i], fun v ρ => ρ.set i (some (pu v))⟩
abbrev TgD.p {α β : Type} (a : TgD α) (b : TgD β) : TgD (α × β) := ⟨fun K => gTup K 2 (gCons (a.g K) (gCons (b.g K) gNil)), a.ws ++ b.ws, fun v ρ => b.f v.2 (a.f v.1 ρ)⟩
section
variable {Y : DX} {s : DSt} {k : Nat} {scope : Scope} {tg elt iter : Expr} {ifs : List Expr} {β γ : Type} [Enc β] {items : List β} {c : β → Bool} {gpos p pos : Pos}
theorem tg_nm {x : Str} (nd : Y.X.N.Nodup) (i : Nat) (hi : Y.X.N[i]? = some x) (hx : Loc Y.X.env.scope x := by first | exact .inl rfl | exact .inr rfl) (hf : Y.X.fn x = true ∨ Y.X.env.scope.names.lookup x = some .local := by first | exact .inl rfl | exact .inr rfl) {α : Type} [Enc α] {pos : Pos} :
    TgOk Y (.Name x pos) (gName i) [i] (fun (v : α) ρ => ρ.set i (some (pu v))) := tg_name nd i hi hx hf
theorem tg_gen {x : Str} (ok : YOk Y) (z : GCx) (i : Nat) (hi : Y.X.N[i]? = some x) (hx : Loc (genY Y k scope z).X.env.scope x := by first | exact .inl rfl | exact .inr rfl) (hf : (genY Y k scope z).X.fn x = true ∨ (genY Y k scope z).X.env.scope.names.lookup x = some .local := by first | exact .inl rfl | exact .inr rfl) {α : Type} [Enc α] {pos : Pos} :
    TgOk (genY Y k scope z) (.Name x pos) (gName i) [i] (fun (v : α) ρ => ρ.set i (some (pu v))) := tg_name (Y := genY Y k scope z) ok.nd i hi hx hf
theorem tg_blk {x : Str} (ok : YOk Y) (z : BCx) (i : Nat) (hi : Y.X.N[i]? = some x) (hx : Loc (blkY Y scope z).X.env.scope x := by first | exact .inl rfl | exact .inr rfl) (hf : (blkY Y scope z).X.fn x = true ∨ (blkY Y scope z).X.env.scope.names.lookup x = some .local := by first | exact .inl rfl | exact .inr rfl) {α : Type} [Enc α] {pos : Pos} :
    TgOk (blkY Y scope z) (.Name x pos) (gName i) [i] (fun (v : α) ρ => ρ.set i (some (pu v))) := tg_name (Y := blkY Y scope z) ok.nd i hi hx hf
theorem gen_calm (z : GCx) : (genY Y k scope z).X.calm = true := rfl
end
end Sp
set_option maxHeartbeats 4000000
namespace Sp
open PySem PySem.Spec PyProof.Rows L2
open AutoSeq1 (wpAny_loadPart')
section
variable {X : Cx} {e : Expr} {te : TE} {p apos cpos pos : Pos}
theorem Sta.growAll {Y : DX} {s : DSt} {σ : L2.St} {H F H' : Hp} (S : Sta Y s σ H F) (e : ∀ b o, H b = some o → H' b = some o) (l : List Addr) (new : ∀ a ∈ l, H a = none ∧ ∃ o, H' a = some o ∧ isTbl o = false) :
    Sta Y s σ H' (fun b => if b ∈ l then H' b else F b) ∧ Ext F (fun b => if b ∈ l then H' b else F b) := by
  have hF : ∀ a ∈ l, F a = none := fun a ha => S.ext.free (new a ha).1
  have eF : Ext F (fun b => if b ∈ l then H' b else F b) := fun a o h => by
    show (if a ∈ l then H' a else F a) = some o
    rw [if_neg (fun z => by rw [hF a z] at h; cases h)]
    exact h
  refine ⟨⟨fun a o h => ?_, fun a u h => ?_, S.rep.mono eF, fun q hq => ?_, S.nd, fun p hp => (S.tb p hp).ext e, ⟨S.st.ff.trans eF, fun a u h1 h2 h3 => e _ _ (S.st.fr a u h1 h2 h3), fun a h => ?_⟩⟩, eF⟩
  · have h' : (if a ∈ l then H' a else F a) = some o := h
    by_cases z : a ∈ l
    · rw [if_pos z] at h'; exact h'
    · rw [if_neg z] at h'; exact e _ _ (S.ext _ _ h')
  · have h' : (if a ∈ l then H' a else F a) = some u := h
    by_cases z : a ∈ l
    · rw [if_pos z] at h'
      obtain ⟨_, o, ho, ht⟩ := new a z
      rw [ho] at h'; cases h'; exact ht
    · rw [if_neg z] at h'; exact S.ntb _ _ h'
  · obtain ⟨h1, u, h2, h3, h4⟩ := S.own q hq
    have ne : q.1 ∉ l := fun z => by rw [(new _ z).1] at h2; cases h2
    refine ⟨?_, u, e _ _ h2, h3, q.2.mono h4 eF⟩
    show (if q.1 ∈ l then H' q.1 else F q.1) = none
    rw [if_neg ne]
    exact h1
  · by_cases z : a ∈ l
    · exact .inr (S.st.was (.of (new a z).1))
    · refine S.st.nw a (h.elim (fun h => .inl ?_) .inr)
      have h' : (if a ∈ l then H' a else F a) ≠ none := h
      rw [if_neg z] at h'
      exact h'
end
end Sp
set_option maxHeartbeats 4000000
namespace Sp
open PySem L2
section
variable {Y : DX} {s : DSt} {e a b c d o : Expr} {es : List Expr} {pos p apos : Pos} {Q : Pv → DSt → Prop} {D : DE}
end
end Sp
set_option maxHeartbeats 4000000
namespace Sp
open PySem L2
section
variable {Y : DX} {s : DSt} {tg elt iter : Expr} {ifs : List Expr} {pos spos py : Pos} {scope : Scope} {α β : Type} [Enc α] [Enc β] {items : List β} {D : DE}
end
end Sp
set_option maxHeartbeats 4000000
namespace Sp
open PySem PySem.Spec PyProof.Rows L2
end Sp
set_option maxHeartbeats 4000000
namespace Sp
open PySem L2
open PySem.W (Datum DatumOrd SomeDatum)
def noStar : Expr → Bool
  | .Starred .. => false
  | _ => true
def noSup : Expr → Bool
  | .Call (.Name ..) .. => false
  | _ => true
theorem star_c {e : Expr} {es : List Expr} {env : Env} (h : noStar e = true) : starEach (e :: es) env = (false, eval e env) :: starEach es env := by
  cases e <;> first | rfl | cases h
theorem star_1 {e : Expr} {env : Env} (h : noStar e = true) : starEach [e] env = [(false, eval e env)] := star_c h
theorem star_any {pos : Pos} {env : Env} : ∀ {es : List Expr}, es.all noStar = true → (backTo pos (starEach es env)).any (·.1) = false
  | [], _ => rfl
  | e :: es, h => by
    rw [List.all_cons, Bool.and_eq_true] at h
    rw [star_c h.1]
    show (false || (backTo pos (starEach es env)).any (·.1)) = false
    rw [star_any h.2]; rfl
theorem ab_ok {o : Expr} {m : Str} {env : Env} {x : Sem Value} (h : noSup o = true) : attributeBase o m env x = x := by
  cases o with
  | Call f es ks p => cases f <;> first | rfl | cases h
  | _ => rfl
theorem few_1 {e : Expr} {pos : Pos} {env : Env} (h : noStar e = true) : ((backTo pos (starEach [e] env)).all (fun x => !x.1) && (backToKw pos (keywordEach [] env)).all (fun x => x.1.isSome)
      && decide (([e] : List Expr).length + ([] : List Keyword).length + (if ([] : List Keyword).isEmpty then 0 else 1) < 30)) = true := by rw [star_1 h]; rfl
theorem mx1 {X : Cx} {o : Expr} {m : Str} {apos : Pos} {e : Expr} {pos : Pos} (h1 : noSup o = true) (h2 : noStar e = true) (h3 : (apos.endLine == pos.line) = true) : Mx1 X o m apos e pos := ⟨ab_ok h1, few_1 h2, h3, star_1 h2⟩
def inL {α : Type} [DecidableEq α] (x : α) (xs : List α) : Bool := decide (x ∈ xs)
def niL {α : Type} [DecidableEq α] (x : α) (xs : List α) : Bool := decide (x ∉ xs)
def EvC (Y : DX) (s : DSt) (e : Expr) {α : Type} [Enc α] (W : (α → Prop) → Prop) : Prop := ∀ k : α → Prop, W k → Ev Y s e fun A s' => ∃ x, A = pu x ∧ s' = s ∧ k x
def EvL (Y : DX) (s : DSt) (e : Expr) {α : Type} [Enc α] (W : (List α → Prop) → Prop) : Prop := ∀ k : List α → Prop, W k → Ev Y s e fun A s' => ∃ xs, DL Y s A xs ∧ s' = s ∧ k xs
def EvD (Y : DX) (s : DSt) (e : Expr) {κ ν : Type} [Kk κ] [Enc ν] (W : (List (κ × ν) → Prop) → Prop) : Prop := ∀ k : List (κ × ν) → Prop, W k → Ev Y s e fun A s' => ∃ m, DF Y s A m ∧ s' = s ∧ k m
def EvT (Y : DX) (s : DSt) (c : Expr) (W : (Bool → Prop) → Prop) : Prop := ∀ k : Bool → Prop, W k → Et Y s c fun b s' => s' = s ∧ k b
def EvW (Y : DX) (s : DSt) (c : Expr) (W : (Bool → Prop) → Prop) : Prop := ∀ k : Bool → Prop, W k → Ew Y s c fun b s' => s' = s ∧ k b
def EvK (Y : DX) (s : DSt) (op : CmpOp) (a b : Expr) (W : (Bool → Prop) → Prop) : Prop := ∀ k : Bool → Prop, W k → Cmp Y s op a b fun c s' => s' = s ∧ k c
section
variable {Y : DX} {s : DSt} {e a b c d o : Expr} {es : List Expr} {pos p apos : Pos} {α β γ : Type} [Enc α] [Enc β] [Enc γ]
theorem EvC.pp {W : (α → Prop) → Prop} {x : α} (h : EvC Y s e W) (w : W (fun y => y = x)) : EvP Y s e (pu x) :=
  .of ((h _ w).mono fun A s' ⟨y, ea, es, ey⟩ => ⟨by rw [ea, ey], es⟩)
theorem EvT.pp {W : (Bool → Prop) → Prop} {x : Bool} (h : EvT Y s e W) (w : W (fun y => y = x)) : EtP Y s e x :=
  .of ((h _ w).mono fun b s' ⟨es, ey⟩ => ⟨ey, es⟩)
theorem EvC.q {W : (α → Prop) → Prop} {k : α → Prop} {Q : Pv → DSt → Prop} (h : EvC Y s e W) (w : W k) (q : ∀ x, k x → Q (pu x) s) : Ev Y s e Q :=
  (h k w).mono fun A s' ⟨x, ea, es, kx⟩ => by subst ea es; exact q x kx
theorem EvL.q {W : (List α → Prop) → Prop} {k : List α → Prop} {Q : Pv → DSt → Prop} (h : EvL Y s e W) (w : W k) (q : ∀ A xs, DL Y s A xs → k xs → Q A s) : Ev Y s e Q :=
  (h k w).mono fun A s' ⟨x, ea, es, kx⟩ => by subst es; exact q A x ea kx
theorem EvD.q {κ ν : Type} [Kk κ] [Enc ν] {W : (List (κ × ν) → Prop) → Prop} {k : List (κ × ν) → Prop} {Q : Pv → DSt → Prop} (h : EvD Y s e W) (w : W k) (q : ∀ A m, DF Y s A m → k m → Q A s) : Ev Y s e Q :=
  (h k w).mono fun A s' ⟨x, ea, es, kx⟩ => by subst es; exact q A x ea kx
theorem EvT.q {W : (Bool → Prop) → Prop} {k : Bool → Prop} {Q : Bool → DSt → Prop} (h : EvT Y s e W) (w : W k) (q : ∀ x, k x → Q x s) : Et Y s e Q :=
  (h k w).mono fun b s' ⟨es, kx⟩ => by subst es; exact q b kx
theorem EvK.q {op : CmpOp} {W : (Bool → Prop) → Prop} {k : Bool → Prop} {Q : Bool → DSt → Prop} (h : EvK Y s op a b W) (w : W k) (q : ∀ x, k x → Q x s) : Cmp Y s op a b Q :=
  (h k w).mono fun b s' ⟨es, kx⟩ => by subst es; exact q b kx
theorem c_of {x : α} (h : EvP Y s e (pu x)) : EvC Y s e fun k => k x := fun k w => .of h ⟨x, rfl, rfl, w⟩
theorem c_v {x : Str} {y : α} (i : Nat) (hN : Y.X.N[i]? = some x) (hA : s.ρ[i]? = some (some (pu y))) (hv : Vis Y.X.env.scope x := by first | exact .inl rfl | exact .inr (.inl rfl) | exact .inr (.inr rfl)) (hd : (x == ("__debug__" : Str)) = false := by decide) (hcd : (x == ("__classdict__" : Str)) = false := by decide) :
    EvC Y s (.Name x pos) fun k => k y := c_of (evp_v i hN hA hv hd hcd)
theorem c_int {i : Int} {j : Nat} : EvC Y s (.Constant (.int i) j pos) fun k => k i := c_of evp_int
theorem c_bl {i : Bool} {j : Nat} : EvC Y s (.Constant (.bool i) j pos) fun k => k i := c_of evp_bl
theorem c_tx {x : Str} {j : Nat} : EvC Y s (.Constant (.str x) j pos) fun k => k (tx x) := c_of evp_tx
theorem c_none {j : Nat} : EvC Y s (.Constant .none j pos) fun k => k (Option.none : Option α) := c_of evp_none
theorem c_l {W : (List α → Prop) → Prop} (h : EvC Y s e W) : EvL Y s e W := fun k w => h.q w fun x kx => ⟨x, .pu, rfl, kx⟩
theorem c_d {κ ν : Type} [DecidableEq κ] [Kk κ] [Enc κ] [KkV κ] [Enc ν] {W : (Dct κ ν → Prop) → Prop} (h : EvC Y s e W) : EvD Y s e fun k => W fun m => k m.kvs := fun k w => h.q w fun x kx => ⟨x.kvs, .pu, rfl, kx⟩
theorem c_inr {W : (β → Prop) → Prop} (h : EvC Y s e W) : EvC Y s e fun k => W fun x => k (Sum.inr x : α ⊕ β) := fun k w => h.q w fun x kx => ⟨Sum.inr x, rfl, rfl, kx⟩
theorem c_some {W : (α → Prop) → Prop} (h : EvC Y s e W) : EvC Y s e fun k => W fun x => k (Option.some x) := fun k w => h.q w fun x kx => ⟨Option.some x, rfl, rfl, kx⟩
section
variable {Wa Wb Wc : (Int → Prop) → Prop}
theorem c_add (ha : EvC Y s a Wa) (hb : EvC Y s b Wb) : EvC Y s (.BinOp a .Add b pos) fun k => Wa fun i => Wb fun j => k (i + j) := fun k w =>
  ev_ints0 (f := fun i j => i + j) (pe_op op_add pe_we pe_we) (fun _ _ _ _ => rfl) (ha.q w fun i w => ⟨i, rfl, hb.q w fun j w => ⟨j, rfl, _, rfl, rfl, w⟩⟩)
theorem c_sub (ha : EvC Y s a Wa) (hb : EvC Y s b Wb) : EvC Y s (.BinOp a .Sub b pos) fun k => Wa fun i => Wb fun j => k (i - j) := fun k w =>
  ev_ints0 (f := fun i j => i - j) (pe_op op_sub pe_we pe_we) (fun _ _ _ _ => rfl) (ha.q w fun i w => ⟨i, rfl, hb.q w fun j w => ⟨j, rfl, _, rfl, rfl, w⟩⟩)
theorem c_mul (ha : EvC Y s a Wa) (hb : EvC Y s b Wb) : EvC Y s (.BinOp a .Mult b pos) fun k => Wa fun i => Wb fun j => CMul i j ∧ k (i * j) := fun k w =>
  ev_ints (f := fun i j => i * j) (pe_op op_mul pe_we pe_we) (fun _ _ _ _ => rfl) (ha.q w fun i w => ⟨i, rfl, hb.q w fun j ⟨w1, w⟩ => ⟨j, rfl, w1, _, rfl, rfl, w⟩⟩)
theorem c_mod (ha : EvC Y s a Wa) (hb : EvC Y s b Wb) : EvC Y s (.BinOp a .Mod b pos) fun k => Wa fun i => Wb fun j => 0 < j ∧ k (i % j) := fun k w =>
  ev_ints (C := fun _ j => 0 < j) (f := fun i j => i % j) (pe_op op_mod pe_we pe_we) (fun _ _ _ _ => rfl) (ha.q w fun i w => ⟨i, rfl, hb.q w fun j ⟨w1, w⟩ => ⟨j, rfl, w1, _, rfl, rfl, w⟩⟩)
theorem c_fdiv (ha : EvC Y s a Wa) (hb : EvC Y s b Wb) : EvC Y s (.BinOp a .FloorDiv b pos) fun k => Wa fun i => Wb fun j => CDiv i j ∧ k (i / j) := fun k w =>
  ev_ints (f := fun i j => i / j) (pe_op op_fdiv pe_we pe_we) (fun _ _ _ _ => rfl) (ha.q w fun i w => ⟨i, rfl, hb.q w fun j ⟨w1, w⟩ => ⟨j, rfl, w1, _, rfl, rfl, w⟩⟩)
theorem k_lt (ha : EvC Y s a Wa) (hb : EvC Y s b Wb) : EvK Y s .Lt a b fun k => Wa fun i => Wb fun j => k (decide (i < j)) := fun k w =>
  cmp_of op_lt (ha.q w fun i w => hb.q w fun j w => ⟨_, ⟨rfl, w⟩, fun σ H F v u Q S r1 r2 q => ⟨i, j, r1, r2, q⟩⟩)
theorem k_gt (ha : EvC Y s a Wa) (hb : EvC Y s b Wb) : EvK Y s .Gt a b fun k => Wa fun i => Wb fun j => k (decide (j < i)) := fun k w =>
  cmp_of op_gt (ha.q w fun i w => hb.q w fun j w => ⟨_, ⟨rfl, w⟩, fun σ H F v u Q S r1 r2 q => ⟨i, j, r1, r2, q⟩⟩)
end
section
variable {δ : Type} [DecidableEq δ] [Enc δ] [Datum δ] [Dat δ] {Wa Wb : (δ → Prop) → Prop}
theorem k_eq (ok : YOk Y) (ha : EvC Y s a Wa) (hb : EvC Y s b Wb) (hd : Datum.depth δ ≤ 60 := by decide) : EvK Y s .Eq a b fun k => Wa fun i => Wb fun j => k (decide (i = j)) := fun k w =>
  cmp_of (op_eqT (α := δ) ok.room.units hd) (ha.q w fun i w => hb.q w fun j w => ⟨_, ⟨rfl, w⟩, fun σ H F v u Q S r1 r2 q => ⟨i, j, DA.pu σ H F v S r1, DA.pu σ H F u S r2, q⟩⟩)
theorem k_ne (ok : YOk Y) (ha : EvC Y s a Wa) (hb : EvC Y s b Wb) (hd : Datum.depth δ ≤ 60 := by decide) : EvK Y s .NotEq a b fun k => Wa fun i => Wb fun j => k (decide (i ≠ j)) := fun k w =>
  cmp_of (op_neT (α := δ) ok.room.units hd) (ha.q w fun i w => hb.q w fun j w => ⟨_, ⟨rfl, w⟩, fun σ H F v u Q S r1 r2 q => ⟨i, j, DA.pu σ H F v S r1, DA.pu σ H F u S r2, q⟩⟩)
theorem k_eqL {Wa Wb : (List δ → Prop) → Prop} (ok : YOk Y) (ha : EvL Y s a Wa) (hb : EvL Y s b Wb) (hd : Datum.depth (List δ) ≤ 60 := by decide) : EvK Y s .Eq a b fun k => Wa fun i => Wb fun j => k (decide (i = j)) := fun k w =>
  cmp_of (op_eqT (α := List δ) ok.room.units hd) (ha.q w fun A i hA w => hb.q w fun B j hB w => ⟨_, ⟨rfl, w⟩, fun σ H F v u Q S r1 r2 q => ⟨i, j, hA.da σ H F v S r1, hB.da σ H F u S r2, q⟩⟩)
theorem k_neL {Wa Wb : (List δ → Prop) → Prop} (ok : YOk Y) (ha : EvL Y s a Wa) (hb : EvL Y s b Wb) (hd : Datum.depth (List δ) ≤ 60 := by decide) : EvK Y s .NotEq a b fun k => Wa fun i => Wb fun j => k (decide (i ≠ j)) := fun k w =>
  cmp_of (op_neT (α := List δ) ok.room.units hd) (ha.q w fun A i hA w => hb.q w fun B j hB w => ⟨_, ⟨rfl, w⟩, fun σ H F v u Q S r1 r2 q => ⟨i, j, hA.da σ H F v S r1, hB.da σ H F u S r2, q⟩⟩)
theorem k_in {Wb : (List δ → Prop) → Prop} (ok : YOk Y) (ha : EvC Y s a Wa) (hb : EvL Y s b Wb) (hd : Datum.depth δ ≤ 60 := by decide) : EvK Y s .In a b fun k => Wa fun x => Wb fun xs => k (inL x xs) := fun k w =>
  cmp_of (op_inT (α := δ) ok.room.units hd) (ha.q w fun i w => hb.q w fun B j hB w => ⟨_, ⟨rfl, w⟩, fun σ H F v u Q S r1 r2 q => ⟨i, j, DA.pu σ H F v S r1, hB.da σ H F u S r2, q⟩⟩)
theorem k_nin {Wb : (List δ → Prop) → Prop} (ok : YOk Y) (ha : EvC Y s a Wa) (hb : EvL Y s b Wb) (hd : Datum.depth δ ≤ 60 := by decide) : EvK Y s .NotIn a b fun k => Wa fun x => Wb fun xs => k (niL x xs) := fun k w =>
  cmp_of (op_ninT (α := δ) ok.room.units hd) (ha.q w fun i w => hb.q w fun B j hB w => ⟨_, ⟨rfl, w⟩, fun σ H F v u Q S r1 r2 q => ⟨i, j, DA.pu σ H F v S r1, hB.da σ H F u S r2, q⟩⟩)
end
section
variable {δ : Type} [DecidableEq δ] [Enc δ] [DatumOrd δ] [Dat δ] {Wa Wb : (δ → Prop) → Prop}
end
section
variable {Wa Wb : (List Nat → Prop) → Prop}
theorem k_ninS (ha : EvC Y s a Wa) (hb : EvC Y s b Wb) : EvK Y s .NotIn a b fun k => Wa fun x => Wb fun y => k (!tin x y) := fun k w =>
  cmp_of op_notin_str (ha.q w fun x w => hb.q w fun y w => ⟨_, ⟨rfl, w⟩, fun σ H F v u Q S r1 r2 q => ⟨toStr x, toStr y, r1, r2, by rw [toStr_len]; exact q⟩⟩)
end
section
variable [NoN α] {W : (Option α → Prop) → Prop} {j : Nat}
theorem k_isN (ha : EvC Y s a W) : EvK Y s .Is a (.Constant .none j p) fun k => W fun x => k x.isNone := fun k w =>
  cmp_of op_isN (ha.q w fun x w => .of evp_non ⟨_, ⟨rfl, w⟩, fun σ H F v u Q S r1 r2 q => ⟨r2, by rw [optNone (α := α) r1]; exact q⟩⟩)
end
section
variable {κ ν : Type} [DecidableEq κ] [Kk κ] [Enc κ] [KkV κ] [Enc ν] {Wa : (κ → Prop) → Prop} {Wb : (List (κ × ν) → Prop) → Prop}
end
theorem c_k {op : CmpOp} {W : (Bool → Prop) → Prop} (h : EvK Y s op a b W) (h1 : behindInMarks op b = false := by first | exact nobehind _ (by decide) (by decide) | rfl) : EvC Y s (.Compare a [op] [b] pos) W := fun k w =>
  ev_cmp (h.q w fun x kx => ⟨x, rfl, rfl, kx⟩) h1
theorem t_k {op : CmpOp} {W : (Bool → Prop) → Prop} (h : EvK Y s op a b W) (h1 : behindInMarks op b = false := by first | exact nobehind _ (by decide) (by decide) | rfl) : EvT Y s (.Compare a [op] [b] pos) W := fun k w =>
  et_cmp (h.q w fun x kx => ⟨rfl, kx⟩) h1
theorem t_v {W : (Bool → Prop) → Prop} (he : ∀ whole, isTrue e Y.X.env whole = (do let v ← whole; standAt e.pos; holding [v] (truthy v))) (h : EvC Y s e W) : EvT Y s e W := fun k w =>
  et_val he (h.q w fun x kx => ⟨x, rfl, rfl, kx⟩)
theorem t_not {W : (Bool → Prop) → Prop} (h : EvT Y s a W) : EvT Y s (.UnaryOp .Not a pos) fun k => W fun x => k (!x) := fun k w =>
  et_not (h.q w fun x kx => ⟨rfl, kx⟩)
theorem t_w {W : (Bool → Prop) → Prop} (h : EvW Y s a W) : EvT Y s a W := fun k w => et_w (h k w)
theorem w_and1 {W : (Bool → Prop) → Prop} (h : EvT Y s a W) : EvW Y s (.BoolOp .And [a] pos) W := fun k w => ew_and1 (h k w)
theorem w_or1 {W : (Bool → Prop) → Prop} (h : EvT Y s a W) : EvW Y s (.BoolOp .Or [a] pos) W := fun k w => ew_or1 (h k w)
theorem w_or {W V : (Bool → Prop) → Prop} {r : List Expr} (h : EvT Y s a W) (hr : EvW Y s (.BoolOp .Or (b :: r) pos) V) : EvW Y s (.BoolOp .Or (a :: b :: r) pos) fun k => W fun x => (x = true → k true) ∧ (x = false → V k) := fun k w =>
  ew_or (h.q w fun x kx => by
    cases x with
    | false => exact hr k (kx.2 rfl)
    | true => exact ⟨rfl, kx.1 rfl⟩)
theorem w_andP {W V : (Bool → Prop) → Prop} {r : List Expr} {y : Bool} (h : EvT Y s a W) (hr : EvW Y s (.BoolOp .And (b :: r) pos) V) : EvW Y s (.BoolOp .And (a :: b :: r) pos) fun k => W fun x => (x = true → V fun z => z = y) ∧ k (x && y) := fun k w =>
  ew_and (h.q w fun x kx => by
    cases x with
    | true => exact (hr _ (kx.1 rfl)).to fun z s' ⟨e1, e2⟩ => ⟨e1, by rw [e2]; exact kx.2⟩
    | false => exact ⟨rfl, kx.2⟩)
theorem w_orP {W V : (Bool → Prop) → Prop} {r : List Expr} {y : Bool} (h : EvT Y s a W) (hr : EvW Y s (.BoolOp .Or (b :: r) pos) V) : EvW Y s (.BoolOp .Or (a :: b :: r) pos) fun k => W fun x => (x = false → V fun z => z = y) ∧ k (x || y) := fun k w =>
  ew_or (h.q w fun x kx => by
    cases x with
    | false => exact (hr _ (kx.1 rfl)).to fun z s' ⟨e1, e2⟩ => ⟨e1, by rw [e2]; exact kx.2⟩
    | true => exact ⟨rfl, kx.2⟩)
theorem Po.ext {σ : St} {F0 F1 : Hp} {Q : Pv → DSt → Prop} {v : V} {H : Hp} (h : Po Y σ F1 Q v H) (e : Ext F0 F1) : Po Y σ F0 Q v H := by
  obtain ⟨A, s', F', e1, r, S', q⟩ := h
  exact ⟨A, s', F', e.trans e1, r, S', q⟩
theorem c_ifP {W : (Bool → Prop) → Prop} {Wa Wb : (α → Prop) → Prop} {u w : α} (h : EvT Y s c W) (ha : EvC Y s a Wa) (hb : EvC Y s b Wb) : EvC Y s (.IfExp c a b pos) fun k => W fun x => (x = true → Wa fun z => z = u) ∧ (x = false → Wb fun z => z = w) ∧ k (if x = true then u else w) := fun k w =>
  ev_if (h.q w fun x kx => by
    cases x with
    | true => exact (ha _ (kx.1 rfl)).mono fun A s' ⟨z, e1, e2, e3⟩ => ⟨z, e1, e2, by rw [e3]; exact kx.2.2⟩
    | false => exact (hb _ (kx.2.1 rfl)).mono fun A s' ⟨z, e1, e2, e3⟩ => ⟨z, e1, e2, by rw [e3]; exact kx.2.2⟩)
end
end Sp
set_option maxHeartbeats 4000000
namespace Sp
open PySem L2
open PySem.W (Datum DatumOrd SomeDatum)
instance : Inhabited (Tup α) := ⟨⟨[]⟩⟩
instance [Inhabited α] [Inhabited β] [Inhabited γ] : Inhabited (T3 α β γ) := ⟨⟨default, default, default⟩⟩
instance [Inhabited α] [Inhabited β] [Inhabited γ] [Inhabited δ] : Inhabited (T4 α β γ δ) := ⟨⟨default, default, default, default⟩⟩
instance : Inhabited (Dct κ ν) := ⟨⟨[]⟩⟩
def inR (n : Nat) (i : Int) : Prop := -(n : Int) ≤ i ∧ i < n
def plc (n : Nat) (i : Int) : Nat := (if 0 ≤ i then i else i + n).toNat
def ixD {α : Type} [Inhabited α] (xs : List α) (i : Int) : α := xs.getD (plc xs.length i) default
def ixS (x : Txt) (i : Int) : Txt := [x.getD (plc x.length i) 0]
theorem ixN_plc {n : Nat} {i : Int} (h : inR n i) : ixN n i = some (plc n i) ∧ plc n i < n := by
  unfold inR at h
  unfold ixN plc
  by_cases h0 : 0 ≤ i
  · rw [if_pos h0, if_pos h.2, if_pos h0]
    exact ⟨rfl, by omega⟩
  · rw [if_neg h0, if_pos h.1, if_neg h0]
    exact ⟨rfl, by omega⟩
theorem at_ix {α : Type} [Inhabited α] {xs : List α} {i : Int} (h : inR xs.length i) : atI xs i = some (ixD xs i) := by
  obtain ⟨e, l⟩ := ixN_plc h
  unfold atI ixD
  rw [e]
  show xs[plc xs.length i]? = _
  rw [List.getElem?_eq_getElem l, List.getD_eq_getElem?_getD, List.getElem?_eq_getElem l]
  rfl
theorem at_ixS {x : Txt} {i : Int} (h : inR x.length i) : atI x i = some (x.getD (plc x.length i) 0) := by
  obtain ⟨e, l⟩ := ixN_plc h
  unfold atI
  rw [e]
  show x[plc x.length i]? = _
  rw [List.getElem?_eq_getElem l, List.getD_eq_getElem?_getD, List.getElem?_eq_getElem l]
  rfl
def dgt {κ ν : Type} [DecidableEq κ] [Inhabited ν] (m : List (κ × ν)) (k : κ) : ν := (dval m k).getD default
def EvS (Y : DX) (s : DSt) (es : List Expr) {α : Type} [Enc α] (W : (List α → Prop) → Prop) : Prop := ∀ k : List α → Prop, W k → Evs Y s es fun As s' => ∃ xs : List α, As = xs.map pu ∧ xs.length = es.length ∧ s' = s ∧ k xs
class Ags (τ : Type) where
  pvs : τ → List Pv
instance : Ags Unit := ⟨fun _ => []⟩
instance {α τ : Type} [Enc α] [Ags τ] : Ags (α × τ) := ⟨fun t => pu t.1 :: Ags.pvs t.2⟩
def EvA (Y : DX) (s : DSt) (es : List Expr) {τ : Type} [Ags τ] (W : (τ → Prop) → Prop) : Prop := ∀ k : τ → Prop, W k → Evs Y s es fun As s' => ∃ t : τ, As = Ags.pvs t ∧ s' = s ∧ k t
section
variable {Y : DX} {s : DSt} {e a b c d o : Expr} {es : List Expr} {pos p apos : Pos} {α β γ δ : Type} [Enc α] [Enc β] [Enc γ] [Enc δ]
theorem s_nil : EvS Y s [] (α := α) fun k => k [] := fun k w => evs_nil ⟨[], rfl, rfl, rfl, w⟩
theorem s_cons {W : (α → Prop) → Prop} {V : (List α → Prop) → Prop} (h : EvC Y s e W) (hs : EvS Y s es V) (he : starEach (e :: es) Y.X.env = (false, eval e Y.X.env) :: starEach es Y.X.env := by exact star_c rfl) : EvS Y s (e :: es) fun k => W fun x => V fun xs => k (x :: xs) := fun k w =>
  evs_cons (h.q w fun x w => (hs _ w).mono fun As s' ⟨xs, e1, e2, e3, w⟩ => ⟨x :: xs, by rw [e1]; rfl, by simp [e2], e3, w⟩) he
theorem a_nil : EvA Y s [] (τ := Unit) fun k => k () := fun k w => evs_nil ⟨(), rfl, rfl, w⟩
theorem a_cons {τ : Type} [Ags τ] {W : (α → Prop) → Prop} {V : (τ → Prop) → Prop} (h : EvC Y s e W) (hs : EvA Y s es V) (he : starEach (e :: es) Y.X.env = (false, eval e Y.X.env) :: starEach es Y.X.env := by exact star_c rfl) : EvA Y s (e :: es) (τ := α × τ) fun k => W fun x => V fun t => k (x, t) := fun k w =>
  evs_cons (h.q w fun x w => (hs _ w).mono fun As s' ⟨t, e1, e3, w⟩ => ⟨(x, t), by rw [e1]; rfl, e3, w⟩) he
theorem c_list {W : (List α → Prop) → Prop} (h : EvS Y s es W) (hl : es.length ≤ sizeLine := by show _ ≤ sizeLine; decide) : EvC Y s (.List es pos) W := fun k w =>
  ev_list ((h k w).mono fun As s' ⟨xs, e1, e2, e3, w⟩ => ⟨xs, e1, by omega, xs, rfl, e3, w⟩)
theorem c_tupH {W : (List α → Prop) → Prop} {kk : Nat} (h : EvS Y s es W) (hl : es.length ≤ sizeLine := by show _ ≤ sizeLine; decide) : EvC Y s (.Tuple es kk pos) fun k => W fun xs => k (PySem.W.Tup.mk xs) := fun k w =>
  ev_tupH ((h _ w).mono fun As s' ⟨xs, e1, e2, e3, w⟩ => ⟨xs, e1, by omega, PySem.W.Tup.mk xs, rfl, e3, w⟩)
theorem c_tup2 {W : (α × β × Unit → Prop) → Prop} {kk : Nat} (h : EvA Y s es W) : EvC Y s (.Tuple es kk pos) fun k => W fun t => k (t.1, t.2.1) := fun k w =>
  ev_tup2 ((h _ w).mono fun As s' ⟨t, e1, e3, w⟩ => ⟨t.1, t.2.1, e1, _, rfl, e3, w⟩)
theorem c_tup3 {W : (α × β × γ × Unit → Prop) → Prop} {kk : Nat} (h : EvA Y s es W) : EvC Y s (.Tuple es kk pos) fun k => W fun t => k (PySem.W.T3.mk t.1 t.2.1 t.2.2.1) := fun k w =>
  ev_tup3 ((h _ w).mono fun As s' ⟨t, e1, e3, w⟩ => ⟨t.1, t.2.1, t.2.2.1, e1, _, rfl, e3, w⟩)
theorem c_lenL {W : (List α → Prop) → Prop} (T : Bis Y.X.mg) (hg : Gl Y.X "len") (ha : EvL Y s a W) (he : starEach [a] Y.X.env = (false, eval a Y.X.env) :: starEach [] Y.X.env := by exact star_c rfl) : EvC Y s (.Call (.Name "len" p) [a] [] pos) fun k => W fun xs => k (xs.length : Int) := fun k w =>
  ev_B1 call_len hg (T.no _ (by decide)) boot_len (ha.q w fun A xs hA w F0 σ H F v e0 S r => by
    obtain ⟨q, vs, h1, h2, h3⟩ := hA σ H F v S r
    exact ⟨v, vs.length, rfl, by subst h1; exact .inl ⟨vs, h2, rfl⟩, pu (xs.length : Int), s, F, e0, by rw [Paired.length h3]; rfl, S, _, rfl, rfl, w⟩) (by decide) (by decide) he
theorem c_lenS {W : (List Nat → Prop) → Prop} (T : Bis Y.X.mg) (hg : Gl Y.X "len") (ha : EvC Y s a W) (he : starEach [a] Y.X.env = (false, eval a Y.X.env) :: starEach [] Y.X.env := by exact star_c rfl) : EvC Y s (.Call (.Name "len" p) [a] [] pos) fun k => W fun x => x.length ≤ sizeLine ∧ k (x.length : Int) := fun k w =>
  ev_B1 call_len_str hg (T.no _ (by decide)) boot_len (ha.q w fun x w F0 σ H F v e0 S r => by
    exact ⟨toStr x, by rw [show v = V.str (toStr x) from r], by rw [toStr_len]; exact w.1, pu (x.length : Int), s, F, e0, by rw [toStr_len]; rfl, S, _, rfl, rfl, w.2⟩) (by decide) (by decide) he
section
variable {Wi : (Int → Prop) → Prop}
theorem c_ixL [Inhabited α] {W : (List α → Prop) → Prop} (ha : EvL Y s a W) (hb : EvC Y s b Wi) (hs : PlainIx b := by intro _ _; rfl) : EvC Y s (.Subscript a b pos) fun k => W fun xs => Wi fun i => inR xs.length i ∧ k (ixD xs i) := fun k w =>
  ev2 (pe_ix ix_list pe_we pe_we hs) (ha.q w fun A xs hA w => hb.q w fun i w F0 σ H F v u e0 S rv ru => by
    obtain ⟨p, vs, h1, h2, h3⟩ := hA σ H F v S rv
    obtain ⟨y, hy, ry⟩ := atI_of h3 (at_ix w.1)
    exact ⟨p, vs, i, y, h1, ru, h2, hy, pu (ixD xs i), s, F, e0, ry, S, _, rfl, rfl, w.2⟩)
theorem c_ixH [Inhabited α] {W : (Tup α → Prop) → Prop} (ha : EvC Y s a W) (hb : EvC Y s b Wi) (hs : PlainIx b := by intro _ _; rfl) : EvC Y s (.Subscript a b pos) fun k => W fun xs => Wi fun i => inR xs.items.length i ∧ k (ixD xs.items i) := fun k w =>
  ev2 (pe_ix ix_tup pe_we pe_we hs) (ha.q w fun xs w => hb.q w fun i w F0 σ H F v u e0 S rv ru => by
    obtain ⟨p, vs, h1, h2, h3⟩ := rv
    obtain ⟨y, hy, ry⟩ := atI_of h3 (at_ix w.1)
    exact ⟨p, vs, i, y, h1, ru, sqT_ex2 h2 S.ext, hy, pu (ixD xs.items i), s, F, e0, ry, S, _, rfl, rfl, w.2⟩)
theorem c_ixS {W : (List Nat → Prop) → Prop} (ha : EvC Y s a W) (hb : EvC Y s b Wi) (hs : PlainIx b := by intro _ _; rfl) : EvC Y s (.Subscript a b pos) fun k => W fun x => Wi fun i => x.length ≤ sizeLine ∧ inR x.length i ∧ k (ixS x i) := fun k w =>
  ev2 (pe_ix ix_str pe_we pe_we hs) (ha.q w fun x w => hb.q w fun i w F0 σ H F v u e0 S rv ru =>
    ⟨toStr x, i, _, rv, ru, by rw [toStr_len]; exact w.1, by rw [toStr_cps]; exact at_ixS w.2.1, pu (ixS x i), s, F, e0, rfl, S, _, rfl, rfl, w.2.2⟩)
theorem c_fst {W : (α × β → Prop) → Prop} {j : Nat} {p2 : Pos} (ha : EvC Y s a W) (hs : PlainIx (.Constant (.int 0) j p2) := by intro _ _; rfl) : EvC Y s (.Subscript a (.Constant (.int 0) j p2) pos) fun k => W fun x => k x.1 := fun k w =>
  ev_fst hs (ha.q w fun x w => ⟨x, rfl, x.1, rfl, rfl, w⟩)
theorem c_snd {W : (α × β → Prop) → Prop} {j : Nat} {p2 : Pos} (ha : EvC Y s a W) (hs : PlainIx (.Constant (.int 1) j p2) := by intro _ _; rfl) : EvC Y s (.Subscript a (.Constant (.int 1) j p2) pos) fun k => W fun x => k x.2 := fun k w =>
  ev_snd hs (ha.q w fun x w => ⟨x, rfl, x.2, rfl, rfl, w⟩)
theorem c_t3a {W : (T3 α β γ → Prop) → Prop} {j : Nat} {p2 : Pos} (ha : EvC Y s a W) (hs : PlainIx (.Constant (.int 0) j p2) := by intro _ _; rfl) : EvC Y s (.Subscript a (.Constant (.int 0) j p2) pos) fun k => W fun x => k x.a := fun k w =>
  ev2 (pe_ix ix_tup pe_we pe_we hs) (ha.q w fun x w => .of evp_int fun F0 σ H F v u e0 S rv ru => by
    obtain ⟨p, z1, z2, z3, h1, h2, h3, h4, h5⟩ := rv
    exact ⟨p, [z1, z2, z3], 0, z1, h1, ru, sqT_ext h2 S.ext, rfl, pu x.a, s, F, e0, h3, S, _, rfl, rfl, w⟩)
theorem c_t3b {W : (T3 α β γ → Prop) → Prop} {j : Nat} {p2 : Pos} (ha : EvC Y s a W) (hs : PlainIx (.Constant (.int 1) j p2) := by intro _ _; rfl) : EvC Y s (.Subscript a (.Constant (.int 1) j p2) pos) fun k => W fun x => k x.b := fun k w =>
  ev2 (pe_ix ix_tup pe_we pe_we hs) (ha.q w fun x w => .of evp_int fun F0 σ H F v u e0 S rv ru => by
    obtain ⟨p, z1, z2, z3, h1, h2, h3, h4, h5⟩ := rv
    exact ⟨p, [z1, z2, z3], 1, z2, h1, ru, sqT_ext h2 S.ext, rfl, pu x.b, s, F, e0, h4, S, _, rfl, rfl, w⟩)
theorem c_t3c {W : (T3 α β γ → Prop) → Prop} {j : Nat} {p2 : Pos} (ha : EvC Y s a W) (hs : PlainIx (.Constant (.int 2) j p2) := by intro _ _; rfl) : EvC Y s (.Subscript a (.Constant (.int 2) j p2) pos) fun k => W fun x => k x.c := fun k w =>
  ev2 (pe_ix ix_tup pe_we pe_we hs) (ha.q w fun x w => .of evp_int fun F0 σ H F v u e0 S rv ru => by
    obtain ⟨p, z1, z2, z3, h1, h2, h3, h4, h5⟩ := rv
    exact ⟨p, [z1, z2, z3], 2, z3, h1, ru, sqT_ext h2 S.ext, rfl, pu x.c, s, F, e0, h5, S, _, rfl, rfl, w⟩)
end
def EvOC (Y : DX) (s : DSt) (e : Option Expr) (W : (Option Int → Prop) → Prop) : Prop := ∀ k : Option Int → Prop, W k → ∀ F0 σ H F, Ext F0 F → Sta Y s σ H F →
  WO Y.X e σ H fun o H' => ∃ F', Ext F0 F' ∧ Sta Y s σ H' F' ∧ k o
theorem o_no : EvOC Y s none fun k => k none := fun k w F0 σ H F e0 S => ⟨fun pins s1 I => (po_none).run pins s1 σ H _ I ⟨F, e0, S, w⟩⟩
theorem o_at {W : (Int → Prop) → Prop} (h : EvC Y s e W) : EvOC Y s (some e) fun k => W fun i => k (some i) := fun k w F0 σ H F e0 S => ⟨fun pins s1 I =>
  (po_some pe_we).run pins s1 σ H _ I (((h _ w) F0 σ H F e0 S).mono fun v H' ⟨_, _, F', e1, r, S', i, ea, es, w⟩ => by subst ea es; exact ⟨i, r, F', e1, S', w⟩)⟩
theorem ev_slC {Q : Pv → DSt → Prop} {r : V → Option Int → Option Int → Hp → VK → Prop} {lo hi : Option Expr} {p2 : Pos} {Wl Wh : (Option Int → Prop) → Prop} (hr : SlR Y.X r) (hl : EvOC Y s lo Wl) (hh : EvOC Y s hi Wh)
    (h : Ev Y s a fun A s1 => s1 = s ∧ ∃ K : Option Int → Option Int → Prop, (Wl fun i => Wh fun j => K i j) ∧ ∀ i j, K i j → ∀ F0 σ H F v, Ext F0 F → Sta Y s σ H F → A.rep Y.X.K F v → r v i j H (Po Y σ F0 Q)) : Ev Y s (.Subscript a (.Slice lo hi none p2) pos) Q := fun F0 σ H F e0 S => by
  refine .of (pe_slice hr pe_we po_wo po_wo) ?_
  refine (h F σ H F (.refl _) S).mono fun v H1 ⟨A, s1, F1, e1, r1, S1, es, K, w, q⟩ => ?_
  subst es
  refine ⟨fun pins sh I => ?_⟩
  refine thn ((hl _ w F1 σ H1 F1 (.refl _) S1).run pins sh I) fun u s2 ⟨o, H2, I2, p2, F2, e2, S2, w⟩ => ⟨o, H2, I2, p2, ?_⟩
  refine ⟨fun pins' s1' I' => ?_⟩
  refine thn ((hh _ w F2 σ H2 F2 (.refl _) S2).run pins' s1' I') fun u' s3 ⟨o', H3, I3, p3, F3, e3, S3, w⟩ => ⟨o', H3, I3, p3, ?_⟩
  exact q _ _ w F0 σ H3 F3 v (((e0.trans e1).trans e2).trans e3) S3 (A.mono r1 (e2.trans e3))
section
variable {lo hi : Option Expr} {p2 : Pos} {Wl Wh : (Option Int → Prop) → Prop}
theorem c_slS {W : (List Nat → Prop) → Prop} (ha : EvC Y s a W) (hl : EvOC Y s lo Wl) (hh : EvOC Y s hi Wh) : EvC Y s (.Subscript a (.Slice lo hi none p2) pos) fun k => W fun x => Wl fun i => Wh fun j => x.length ≤ sizeLine ∧ k (cutD x i j) := fun k w =>
  ev_slC sl_str hl hh (ha.q w fun x w => ⟨rfl, _, w, fun i j w F0 σ H F v e0 S r => ⟨toStr x, r, by rw [toStr_len]; exact w.1, pu (cutD x i j), s, F, e0, by rw [toStr_cut]; rfl, S, _, rfl, rfl, w.2⟩⟩)
theorem po_listC {σ : St} {F0 : Hp} {H F : Hp} {vs : List V} {xs : List α} {k : List α → Prop} (e0 : Ext F0 F) (S : Sta Y s σ H F) (r : Vs Y.X.K F vs xs) (w : k xs) : ∀ p, H p = none → Po Y σ F0 (fun A s' => ∃ x, A = pu x ∧ s' = s ∧ k x) (.ref p) (upd H p (.lst vs)) :=
  po_list e0 S r ⟨xs, rfl, rfl, w⟩
end
theorem c_catS {Wa Wb : (List Nat → Prop) → Prop} (ha : EvC Y s a Wa) (hb : EvC Y s b Wb) : EvC Y s (.BinOp a .Add b pos) fun k => Wa fun x => Wb fun y => x.length + y.length ≤ sizeLine ∧ k (x ++ y) := fun k w =>
  ev2 (pe_op op_add_str pe_we pe_we) (ha.q w fun x w => hb.q w fun y w F0 σ H F v u e0 S r1 r2 => ⟨toStr x, toStr y, r1, r2, by rw [toStr_len, toStr_len]; exact w.1, pu (x ++ y), s, F, e0, by rw [toStr_app]; rfl, S, _, rfl, rfl, w.2⟩)
theorem c_catL {Wa Wb : (List α → Prop) → Prop} (ha : EvL Y s a Wa) (hb : EvL Y s b Wb) : EvC Y s (.BinOp a .Add b pos) fun k => Wa fun x => Wb fun y => x.length + y.length ≤ sizeLine ∧ k (x ++ y) := fun k w =>
  ev2 (pe_op op_catF pe_we pe_we) (ha.q w fun A x hA w => hb.q w fun B y hB w F0 σ H F v u e0 S r1 r2 => by
    obtain ⟨p, zs, h1, h2, h3⟩ := hA σ H F v S r1
    obtain ⟨q, ws, g1, g2, g3⟩ := hB σ H F u S r2
    have l1 : zs.length = x.length := Paired.length h3
    have l2 : ws.length = y.length := Paired.length g3
    exact ⟨p, q, zs, ws, h1, g1, h2, g2, by omega, fun l hl => po_listC e0 S (prd_app h3 g3) w.2 l hl⟩)
def repS (x : Txt) (n : Int) : Txt := (List.replicate n.toNat x).flatten
theorem repS_cps (x : Txt) (m : Nat) : (List.replicate m (toStr x).cps).foldl (· ++ ·) #[] = (List.replicate m x).flatten.toArray := by
  have h : ∀ (l : List (Array Nat)) (acc : Array Nat), l.foldl (· ++ ·) acc = acc ++ (l.map Array.toList).flatten.toArray := by
    intro l
    induction l with
    | nil => intro acc; simp
    | cons y l ih => intro acc; rw [List.foldl_cons, ih]; cases y; simp
  rw [h]
  simp [toStr]
theorem op_mulS {X : Cx} : OpR X (binaryOp .Mult) (fun x y H Q => ∃ (z : List Nat) (n : Int), x = .str (toStr z) ∧ y = .int n ∧ -(2 ^ 63) ≤ n ∧ z.length * n.toNat ≤ 16777216 ∧ n ≤ 16777216 ∧ Q (.str (toStr (repS z n))) H) := by
  intro pins s σ H x y v u Q I rx ry h
  obtain ⟨z, n, rfl, rfl, h1, h2, h3, q⟩ := h
  obtain ⟨t, rfl⟩ := rx
  obtain ⟨t', rfl⟩ := ry
  have zl : (toStr z).length = z.length := toStr_len z
  refine P.mul_str ?_ (fun g1 g2 => ?_) (fun g1 g2 => ?_) ?_
  · have : ¬ n ≥ 2 ^ 63 := by omega
    have : ¬ n < -(2 ^ 63 : Int) := by omega
    simp only [Bool.or_eq_false_iff, decide_eq_false_iff_not]
    exact ⟨by omega, by omega⟩
  · have hz : (z.length : Int) ≤ 16777216 := by
      have : 1 ≤ n.toNat := by omega
      have : z.length * 1 ≤ z.length * n.toNat := Nat.mul_le_mul_left _ this
      omega
    rw [zl]
    have : (16777216 : Int) ≤ (2 ^ 63 - 1) / n := by
      rw [Int.le_ediv_iff_mul_le (by omega)]
      omega
    omega
  · rw [zl]
    unfold Builtin.Str.tooLong
    rw [sizeLine_eq]
    exact decide_eq_false (by omega)
  · by_cases g : n < 1
    · rw [if_pos g]
      refine ⟨by decide, ?_⟩
      have e : repS z n = [] := by
        unfold repS
        rw [show n.toNat = 0 by omega]
        rfl
      rw [e] at q
      exact ⟨.str (toStr []), H, I.tok _, ⟨_, rfl⟩, q⟩
    · rw [if_neg g]
      by_cases g2 : (n == 1 || (toStr z).length == 0) = true
      · rw [if_pos g2]
        have e : repS z n = z := by
          unfold repS
          simp only [Bool.or_eq_true, beq_iff_eq] at g2
          rcases g2 with g2 | g2
          · rw [g2]; simp
          · rw [zl] at g2
            have : z = [] := List.eq_nil_of_length_eq_zero g2
            subst this
            simp
        rw [e] at q
        exact ⟨.str (toStr z), H, I, ⟨_, rfl⟩, q⟩
      · rw [if_neg g2]
        refine ⟨?_, ?_⟩
        · show (_ : Nat) ≤ _
          rw [repS_cps]
          have e2 : (List.replicate n.toNat z).flatten.length = n.toNat * z.length := by simp
          show (List.replicate n.toNat z).flatten.length ≤ sizeLine
          rw [e2, sizeLine_eq, Nat.mul_comm]
          exact h2
        · exact ⟨.str (toStr (repS z n)), H, I.tok _, ⟨_, by rw [repS_cps]; rfl⟩, q⟩
theorem c_mulS {Wa : (List Nat → Prop) → Prop} {Wb : (Int → Prop) → Prop} (ha : EvC Y s a Wa) (hb : EvC Y s b Wb) : EvC Y s (.BinOp a .Mult b pos) fun k => Wa fun x => Wb fun n => (-(2 ^ 63) ≤ n ∧ x.length * n.toNat ≤ 16777216 ∧ n ≤ 16777216) ∧ k (repS x n) := fun k w =>
  ev2 (pe_op op_mulS pe_we pe_we) (ha.q w fun x w => hb.q w fun n w F0 σ H F v u e0 S r1 r2 => ⟨x, n, r1, r2, w.1.1, w.1.2.1, w.1.2.2, pu (repS x n), s, F, e0, rfl, S, _, rfl, rfl, w.2⟩)
end
end Sp
set_option maxHeartbeats 4000000
namespace Sp
open PySem L2
open PySem.W (Datum DatumOrd SomeDatum)
section
variable {Y : DX} {s : DSt} {e a b c d o f : Expr} {es : List Expr} {pos p apos : Pos} {α β γ δ : Type} [Enc α] [Enc β] [Enc γ] [Enc δ]
theorem ev_m1C {T id : String} {name : Str} {Q : Pv → DSt → Prop} {r : V → List V → Hp → VK → Prop} (pa : PlainAttrs T) (slot : Slot T name id) (hty : typeOf (.builtin id) = pure (.type "method_descriptor")) (hm : MtR Y.X id r)
    (h : Ev Y s o fun A s1 => (∀ σ H F v, Sta Y s1 σ H F → A.rep Y.X.K F v → tyV Y.X.K T v H) ∧ Ev Y s1 e fun B s2 => ∀ F0 σ H F v u, Ext F0 F → Sta Y s2 σ H F → A.rep Y.X.K F v → B.rep Y.X.K F u → r v [u] H (Po Y σ F0 Q))
    (m : Mx1 Y.X o name apos e pos) : Ev Y s (.Call (.Attribute o name apos) [e] [] pos) Q := fun F0 σ H F e0 S => by
  refine .of (pe_bm pa slot hty hm pe_we (pa_cons pe_we pa_nil m.star) m.base m.few m.line m.star (by rfl)) ?_
  refine (h F σ H F (.refl _) S).mono fun v H1 ⟨A, s1, F1, e1, r1, S1, ht, q⟩ => ⟨ht _ _ _ _ S1 r1, ?_⟩
  refine (q F1 σ H1 F1 (.refl _) S1).mono fun u H2 ⟨B, s2, F2, e2, r2, S2, q⟩ => ?_
  exact q F0 σ H2 F2 v u ((e0.trans e1).trans e2) S2 (A.mono r1 e2) r2
structure Mx2 (X : Cx) (o : Expr) (m : Str) (apos : Pos) (e f : Expr) (pos : Pos) : Prop where
  base : attributeBase o m X.env (eval o X.env) = eval o X.env
  few : ((backTo pos (starEach [e, f] X.env)).all (fun x => !x.1) && (backToKw pos (keywordEach [] X.env)).all (fun x => x.1.isSome)
      && decide (([e, f] : List Expr).length + ([] : List Keyword).length + (if ([] : List Keyword).isEmpty then 0 else 1) < 30)) = true
  line : (apos.endLine == pos.line) = true
  star : starEach [e, f] X.env = (false, eval e X.env) :: starEach [f] X.env
  star2 : starEach [f] X.env = (false, eval f X.env) :: starEach [] X.env
section
variable {Wo We Wf : (List Nat → Prop) → Prop} {Wi : (Int → Prop) → Prop}
theorem ty_txt {x : List Nat} : ∀ σ H F v, Sta Y s σ H F → (pu x).rep Y.X.K F v → tyV Y.X.K "str" v H := fun σ H F v S r => tyV_str r
theorem c_join {Wl : (List (List Nat) → Prop) → Prop} (ho : EvC Y s o Wo) (he : EvL Y s e Wl) (m : Mx1 Y.X o "join" apos e pos := by exact mx1 rfl rfl rfl) : EvC Y s (.Call (.Attribute o "join" apos) [e] [] pos) fun k => Wo fun x => Wl fun xs => lenSum xs + xs.length * x.length ≤ 16777216 ∧ k (joinT x xs) := fun k w =>
  ev_m1C PySem.F.plainAttrs_str PySem.F.slot_str_join PySem.F.type_str_join mt_join (ho.q w fun x w => ⟨ty_txt, he.q w fun B xs hB w F0 σ H F v u e0 S r r2 => by
    obtain ⟨q, zs, h1, h2, h3⟩ := hB σ H F u S r2
    rw [txts_map h3] at h2
    refine ⟨toStr x, q, xs.map toStr, r, by rw [h1], .inl h2, ?_, pu (joinT x xs), s, F, e0, by rw [toStr_join']; rfl, S, _, rfl, rfl, w.2⟩
    have e1 : (xs.map toStr).map (·.length) = xs.map List.length := by rw [List.map_map]; exact List.map_congr_left fun y _ => toStr_len y
    rw [e1, List.length_map, toStr_len]
    exact w.1⟩) m
end
section
variable {δ : Type} [DecidableEq δ] [Enc δ] [Datum δ] [Dat δ] {Wo : (List δ → Prop) → Prop} {We : (δ → Prop) → Prop}
theorem c_cntL (ok : YOk Y) (ho : EvL Y s o Wo) (he : EvC Y s e We) (m : Mx1 Y.X o "count" apos e pos := by exact mx1 rfl rfl rfl) (hd : Datum.depth δ ≤ 60 := by decide) : EvC Y s (.Call (.Attribute o "count" apos) [e] [] pos) fun k => Wo fun xs => We fun x => k (cnt xs x : Int) := fun k w =>
  ev_m1C PySem.F.plainAttrs_list PySem.F.slot_list_count PySem.F.type_list_count (mt_countT (α := δ) ok.room.units hd) (ho.q w fun A xs hA w => ⟨hA.ty, he.q w fun x w F0 σ H F v u e0 S r1 r2 => ⟨x, xs, u, rfl, Enc.mono (α := δ) r2 S.ext, hA.rd S r1, pu (cnt xs x : Int), s, F, e0, rfl, S, _, rfl, rfl, w⟩⟩) m
end
section
variable {κ ν : Type} [DecidableEq κ] [Kk κ] [Enc κ] [KkV κ] [Enc ν] {Wd : (List (κ × ν) → Prop) → Prop} {Wk : (κ → Prop) → Prop} {Wv : (ν → Prop) → Prop}
theorem c_dget [Inhabited ν] (ok : YOk Y) (ha : EvD Y s a Wd) (hb : EvC Y s b Wk) (hs : NoSl b := by intro _ _; rfl) : EvC Y s (.Subscript a b pos) fun k => Wd fun m => Wk fun x => dhas m x = true ∧ k (dgt m x) := fun k w F0 σ H F e0 S => by
  refine .of (pe_dget (by have := ok.room.units; omega) pe_we pe_we hs) ?_
  refine (ha _ w F σ H F (.refl _) S).mono fun v H1 ⟨A, _, F1, e1, r1, S1, m, hA, es, w⟩ => ?_
  subst es
  refine (hb _ w F1 σ H1 F1 (.refl _) S1).mono fun u H2 ⟨_, _, F2, e2, r2, S2, x, ex, es, w⟩ => ?_
  subst ex es
  obtain ⟨q, zs, ev, hr, hz⟩ := hA σ H2 F2 v S2 (A.mono r1 e2)
  obtain ⟨w1, w2⟩ := w
  unfold dhas at w1
  unfold dgt at w2
  rcases kvs_val hz x with ⟨h1, _⟩ | ⟨z, y, h1, h2, h3⟩
  · rw [h1] at w1; cases w1
  · rw [h1] at w2
    exact ⟨q, z, ev, .inl ⟨zs, Kk.key x, hr, KkV.of r2, h2.symm⟩, pu y, _, F2, (e0.trans e1).trans e2, h3, S2, _, rfl, rfl, w2⟩
theorem c_dget2 (ok : YOk Y) (ho : EvD Y s o Wd) (he : EvC Y s e Wk) (hf : EvC Y s f Wv) (M : M2 Y.X o "get" apos e f pos := by exact ⟨rfl, rfl, rfl, rfl⟩) : EvC Y s (.Call (.Attribute o "get" apos) [e, f] [] pos) fun k => Wd fun m => Wk fun x => Wv fun y => k ((dval m x).getD y) := fun k w F0 σ H F e0 S => by
  refine .of (pe_dget2 (by have := ok.room.units; omega) pe_we pe_we pe_we M) ?_
  refine (ho _ w F σ H F (.refl _) S).mono fun v H1 ⟨A, _, F1, e1, r1, S1, m, hA, es, w⟩ => ?_
  subst es
  obtain ⟨q, zs, ev, hr, hz⟩ := hA σ H1 F1 v S1 r1
  refine ⟨q, ev, .inl ⟨zs, hr⟩, ?_⟩
  refine (he _ w F1 σ H1 F1 (.refl _) S1).mono fun u H2 ⟨_, _, F2, e2, r2, S2, x, ex, es, w⟩ => ?_
  subst ex es
  refine (hf _ w F2 σ H2 F2 (.refl _) S2).mono fun z H3 ⟨_, _, F3, e3, r3, S3, y, ey, es, w⟩ => ?_
  subst ey es
  obtain ⟨q', zs', ev', hr', hz'⟩ := hA σ H3 F3 v S3 (A.mono r1 (e2.trans e3))
  have eq : q' = q := by rw [ev] at ev'; cases ev'; rfl
  subst eq
  refine ⟨valV zs' (Kk.key x), .inl ⟨zs', Kk.key x, hr', KkV.of r2, rfl⟩, pu ((dval m x).getD y), _, F3, ((e0.trans e1).trans e2).trans e3, ?_, S3, _, rfl, rfl, w⟩
  rcases kvs_val hz' x with ⟨h1, h2⟩ | ⟨w', y', h1, h2, h3⟩
  · rw [h1, h2]; exact r3
  · rw [h1, h2]; exact h3
theorem c_dnew {κ ν : Type} [DecidableEq κ] [Kk κ] [Enc κ] [KkV κ] [Enc ν] : EvC Y s (.Dict [] [] pos) fun k => k (Dct.mk ([] : List (κ × ν))) := c_of evp_dnew
end
end
end Sp
set_option maxHeartbeats 4000000
namespace Sp
open PySem L2
open PySem.W (Datum DatumOrd SomeDatum)
def minL {α : Type} [DecidableEq α] [DatumOrd α] [Inhabited α] : List α → α
  | [] => default
  | x :: r => PySem.W.minOf x r
section
variable {Y : DX} {s : DSt} {e a b c d o f : Expr} {es : List Expr} {pos p apos : Pos} {α β γ δ : Type} [Enc α] [Enc β] [Enc γ] [Enc δ]
section
variable {Wi Wj : (Int → Prop) → Prop} {Wb : (Bool → Prop) → Prop} {Wt : (List Nat → Prop) → Prop}
theorem c_sum {W : (List Int → Prop) → Prop} (ok : YOk Y) (T : Bis Y.X.mg) (hg : Gl Y.X "sum") (ha : EvL Y s a W) (he : starEach [a] Y.X.env = (false, eval a Y.X.env) :: starEach [] Y.X.env := by exact star_c rfl) : EvC Y s (.Call (.Name "sum" p) [a] [] pos) fun k => W fun ns => k ns.sum := fun k w =>
  ev_B1 (cr_sumT ok.calm) hg (T.no _ (by decide)) PyProof.Rows.boot_sum (ha.q w fun A ns hA w F0 σ H F v e0 S r => ⟨v, ns, rfl, hA.da σ H F v S r, pu ns.sum, s, F, e0, rfl, S, _, rfl, rfl, w⟩) (by decide) (by decide) he
theorem c_min2 (ok : YOk Y) (T : Bis Y.X.mg) (hg : Gl Y.X "min") (ha : EvC Y s a Wi) (hb : EvC Y s b Wj)
    (he : starEach [a, b] Y.X.env = (false, eval a Y.X.env) :: starEach [b] Y.X.env := by exact star_c rfl) (he2 : starEach [b] Y.X.env = (false, eval b Y.X.env) :: starEach [] Y.X.env := by exact star_c rfl) (hpl : (backTo pos (starEach [b] Y.X.env)).any (·.1) = false := by exact star_any rfl) :
    EvC Y s (.Call (.Name "min" p) [a, b] [] pos) fun k => Wi fun i => Wj fun j => k (min i j) := fun k w =>
  ev_B2 (call_min2 ok.calm) hg (T.no _ (by decide)) PyProof.Rows.boot_min (ha.q w fun i w => hb.q w fun j w F0 σ H F v u e0 S r r2 => ⟨i, j, by rw [show v = .int i from r, show u = .int j from r2], pu (min i j), s, F, e0, (by
    show V.int (if j < i then j else i) = V.int (min i j)
    rw [Int.min_def]
    split <;> split <;> first | rfl | (exfalso; omega)), S, _, rfl, rfl, w⟩) (by decide) (by decide) he he2 hpl
end
section
variable {δ : Type} [DecidableEq δ] [Enc δ] [DatumOrd δ] [Dat δ] {W : (List δ → Prop) → Prop}
theorem c_sorted [Srtb δ] (ok : YOk Y) (T : Bis Y.X.mg) (hg : Gl Y.X "sorted") (ha : EvL Y s a W) (hd : Datum.depth δ ≤ 60 := by decide) (he : starEach [a] Y.X.env = (false, eval a Y.X.env) :: starEach [] Y.X.env := by exact star_c rfl) :
    EvC Y s (.Call (.Name "sorted" p) [a] [] pos) fun k => W fun xs => k (srt xs) := fun k w =>
  ev_B1 (cr_sortedF (α := δ) ok.room.units hd) hg (T.no _ (by decide)) PyProof.Rows.boot_sorted (ha.q w fun A xs hA w F0 σ H F v e0 S r => by
    obtain ⟨q, zs, h1, h2, h3⟩ := hA σ H F v S r
    exact ⟨F, v, q, zs, xs, rfl, h1, h2, h3, S.ext, fun q' zs' hq' r' => po_listC e0 S r' w q' hq'⟩) (by decide) (by decide) he
theorem c_min [Inhabited δ] (ok : YOk Y) (T : Bis Y.X.mg) (hg : Gl Y.X "min") (ha : EvL Y s a W) (hd : Datum.depth δ ≤ 60 := by decide) (he : starEach [a] Y.X.env = (false, eval a Y.X.env) :: starEach [] Y.X.env := by exact star_c rfl) :
    EvC Y s (.Call (.Name "min" p) [a] [] pos) fun k => W fun xs => xs ≠ [] ∧ k (minL xs) := fun k w =>
  ev_B1 (cr_minF (α := δ) ok.calm ok.room.units hd) hg (T.no _ (by decide)) PyProof.Rows.boot_min (ha.q w fun A xs hA w F0 σ H F v e0 S r => by
    obtain ⟨q, zs, h1, h2, h3⟩ := hA σ H F v S r
    obtain ⟨w1, w2⟩ := w
    cases xs with
    | nil => exact absurd rfl w1
    | cons x xs => exact ⟨F, v, q, zs, x, xs, rfl, h1, h2, h3, S.ext, fun z r' => ⟨pu (PySem.W.minOf x xs), s, F, e0, r', S, _, rfl, rfl, w2⟩⟩) (by decide) (by decide) he
end
section
variable {κ ν : Type} [DecidableEq κ] [Kk κ] [Enc κ] [KkV κ] [Enc ν] {W : (List (κ × ν) → Prop) → Prop}
theorem c_sortedD [DatumOrd κ] [Dat κ] [Srtb κ] [FlatV κ] [FlatR κ] (ok : YOk Y) (T : Bis Y.X.mg) (hg : Gl Y.X "sorted") (ha : EvD Y s a W) (hz : ∀ k : κ, FlatV.z k = kV (Kk.key k) := by intro _; rfl) (hd : Datum.depth κ ≤ 60 := by decide)
    (he : starEach [a] Y.X.env = (false, eval a Y.X.env) :: starEach [] Y.X.env := by exact star_c rfl) : EvC Y s (.Call (.Name "sorted" p) [a] [] pos) fun k => W fun m => k (srt (m.map (·.1))) := fun k w =>
  ev_B1 (cr_sortedD (κ := κ) hz ok.calm ok.room.units hd) hg (T.no _ (by decide)) PyProof.Rows.boot_sorted (ha.q w fun A m hA w F0 σ H F v e0 S r => by
    obtain ⟨q, zs, h1, h2, h3⟩ := hA σ H F v S r
    exact ⟨q, zs, m.map (·.1), by rw [h1], h2, keys_key h3, fun l hl => po_listC e0 S (flat_vs _) w l hl⟩) (by decide) (by decide) he
theorem po_lock {σ : St} {F0 H F : Hp} {zs : List (Key × V)} {m : List (κ × ν)} {k : Dct κ ν → Prop} (e0 : Ext F0 F) (S : Sta Y s σ H F) (r : KVs Y.X.K F zs m) (w : k (Dct.mk m)) (q : Addr) (hq : H q = none) :
    ∃ d u, (upd H q (.dK zs)) d = some u ∧ Mut (some u) ∧ ∀ od, Po Y σ F0 (fun A s' => ∃ x, A = pu x ∧ s' = s ∧ k x) (.ref q) (upd (upd H q (.dK zs)) d (.frz od u)) :=
  ⟨q, .dK zs, upd_same, trivial, fun od => by
    rw [upd_upd]
    obtain ⟨F', e1, r', S'⟩ := pp_dict (Y := Y) e0 S r q hq od
    exact ⟨_, s, F', e1, r', S', _, rfl, rfl, w⟩⟩
theorem c_dictL {W : (List (κ × ν) → Prop) → Prop} (ok : YOk Y) (T : Bis Y.X.mg) (hg : Gl Y.X "dict") (ha : EvL Y s a W) (he : starEach [a] Y.X.env = (false, eval a Y.X.env) :: starEach [] Y.X.env := by exact star_c rfl) : EvC Y s (.Call (.Name "dict" p) [a] [] pos) fun k => W fun xs => k (Dct.mk (dmerge [] xs)) := fun k w F0 σ H F e0 S => by
  refine .lockAfter (.of (pe_callTy (call_dictP ok.calm) hg (T.no _ (by decide)) PyProof.Rows.boot_dict (pa_cons pe_we pa_nil he) (by decide) (by decide) he (by rfl)) ?_)
  refine (ha _ w F0 σ H F e0 S).mono fun v H1 ⟨A, _, F1, e1, r1, S1, xs, hA, es, w⟩ => ?_
  subst es
  obtain ⟨q, zs, h1, h2, h3⟩ := hA σ H1 F1 v S1 r1
  obtain ⟨ps, kvs, g1, g2, g3⟩ := pairs_kvs h3
  subst g1
  exact ⟨q, ps, kvs, by rw [h1], h2, Paired.mapP g2 fun _ _ z => sqT_ext z S1.ext, fun l hl => po_lock e1 S1 (kvs_merge g3 .nil) w l hl⟩
end
theorem c_listH {W : (Tup α → Prop) → Prop} (T : Bis Y.X.mg) (hg : Gl Y.X "list") (ha : EvC Y s a W) (he : starEach [a] Y.X.env = (false, eval a Y.X.env) :: starEach [] Y.X.env := by exact star_c rfl) : EvC Y s (.Call (.Name "list" p) [a] [] pos) fun k => W fun xs => k xs.items := fun k w =>
  ev_T1 call_list_of hg (T.no _ (by decide)) PyProof.Rows.boot_list (ha.q w fun xs w F0 σ H F v e0 S ⟨q, zs, h1, h2, h3⟩ => ⟨q, zs, by rw [h1], .inr (sqT_ex2 h2 S.ext), fun l hl => po_listC e0 S h3 w l hl⟩) (by decide) (by decide) he
theorem c_tupL {W : (List α → Prop) → Prop} (T : Bis Y.X.mg) (hg : Gl Y.X "tuple") (ha : EvL Y s a W) (he : starEach [a] Y.X.env = (false, eval a Y.X.env) :: starEach [] Y.X.env := by exact star_c rfl) : EvC Y s (.Call (.Name "tuple" p) [a] [] pos) fun k => W fun xs => k (PySem.W.Tup.mk xs) := fun k w =>
  ev_T1 call_tuple_of hg (T.no _ (by decide)) PyProof.Rows.boot_tuple (ha.q w fun A xs hA w F0 σ H F v e0 S r => by
    obtain ⟨q, zs, h1, h2, h3⟩ := hA σ H F v S r
    exact ⟨q, zs, by rw [h1], .inl ⟨h2, fun l hl => ⟨pu (PySem.W.Tup.mk xs), s, upd F l (.tup zs), e0.trans (Ext.grow (S.free hl)), ⟨l, zs, rfl, .of upd_same, h3.mono (Ext.grow (S.free hl))⟩, S.newF hl rfl, _, rfl, rfl, w⟩⟩⟩) (by decide) (by decide) he
end
end Sp
set_option maxHeartbeats 4000000
namespace Sp
open PySem L2
open PySem.W (Datum DatumOrd SomeDatum)
def ItC (Y : DX) (s : DSt) (tg iter : Expr) {β : Type} [Enc β] (W : (List β → Prop) → Prop) : Prop := ∀ k : List β → Prop, W k → EvItE Y s tg iter fun items s' => s' = s ∧ k items
section
variable {Y : DX} {s : DSt} {e a b c d o tg : Expr} {es elts : List Expr} {pos p apos cpos tpos : Pos} {kk : Nat} {α β γ : Type} [Enc α] [Enc β] [Enc γ] {κ ν : Type} [Kk κ] [Enc κ] [KkV κ] [Enc ν]
theorem i_list {tg iter : Expr} {WW : (List α → Prop) → Prop} (ha : EvC Y s iter WW) : ItC Y s tg iter fun kk => WW fun xs => kk xs := fun kk ww =>
  ⟨_, pi_list pe_we, fun F0 σ H F R e0 S k => (ha _ ww F0 σ H F e0 S).mono fun v H' ⟨_, _, F', e1, rr, S', xs, ea, es, ww⟩ => by
    subst ea es
    obtain ⟨p, vs, ev, hq, rv⟩ := rr
    exact ⟨p, ev, ⟨vs, sqL_ext hq S'.ext⟩, k _ _ F' _ _ e1 S' (fun i H2 F2 e2 e3 => ⟨fun x hx => by
      have hq2 := sqL_ext (sqL_ext hq e2) e3
      obtain ⟨w, hw, rw'⟩ := prd_get rv hx
      exact ⟨⟨vs, w, hq2, hw⟩, fun v H3 ⟨eh, hv⟩ => .inl ⟨eh, by
        have := hv vs hq2
        rw [hw] at this
        cases this
        exact Enc.mono rw' e2⟩⟩, fun hl => ⟨vs, sqL_ext (sqL_ext hq e2) e3, by rw [rv.length]; exact hl⟩⟩) ⟨rfl, ww⟩⟩⟩
theorem i_tup {tg iter : Expr} {WW : (Tup α → Prop) → Prop} (ha : EvC Y s iter WW) : ItC Y s tg iter fun kk => WW fun xs => kk xs.items := fun kk ww =>
  ⟨_, pi_tup pe_we, fun F0 σ H F R e0 S k => (ha _ ww F0 σ H F e0 S).mono fun v H' ⟨_, _, F', e1, rr, S', xs, ea, es, ww⟩ => by
    subst ea es
    obtain ⟨p, vs, ev, hq, rv⟩ := rr
    exact ⟨p, ev, ⟨vs, sqT_ex2 hq S'.ext⟩, k _ _ F' _ _ e1 S' (fun i H2 F2 e2 e3 => ⟨fun x hx => by
      have hq2 := sqT_ex2 (K := Y.X.K) (sqT_ex2 hq e2) e3
      obtain ⟨w, hw, rw'⟩ := prd_get rv hx
      exact ⟨⟨vs, w, hq2, hw⟩, fun v H3 ⟨eh, hv⟩ => .inl ⟨eh, by
        have := hv vs hq2
        rw [hw] at this
        cases this
        exact Enc.mono rw' e2⟩⟩, fun hl => ⟨vs, sqT_ex2 (sqT_ex2 hq e2) e3, by rw [rv.length]; exact hl⟩⟩) ⟨rfl, ww⟩⟩⟩
theorem i_txt {tg iter : Expr} {WW : (List Nat → Prop) → Prop} (ha : EvC Y s iter WW) : ItC Y s tg iter fun kk => WW fun x => kk (x.map fun c => [c]) := fun kk ww =>
  ⟨_, pi_str pe_we, fun F0 σ H F R e0 S k => (ha _ ww F0 σ H F e0 S).mono fun v H' ⟨_, _, F', e1, rr, S', x, ea, es, ww⟩ => by
    subst ea es
    have ev := rr
    exact ⟨toStr x, ev, k _ _ F' _ _ e1 S' (fun i H2 F2 e2 e3 => ⟨fun y hy => by
      rw [List.getElem?_map] at hy
      cases q : x[i]? with
      | none => rw [q] at hy; cases hy
      | some c =>
        rw [q] at hy
        cases hy
        have hl : i < (toStr x).cps.size := by
          have := (List.getElem?_eq_some_iff.mp q).1
          simpa [toStr] using this
        refine ⟨hl, fun v H3 ⟨eh, c', hc, hv⟩ => .inl ⟨eh, ?_⟩⟩
        have e9 : c' = c := by
          have : x[i]? = some c' := by simpa [toStr] using hc
          rw [q] at this
          exact (Option.some.inj this).symm
        subst e9
        exact hv, fun hl => by
      show (toStr x).cps.size ≤ i
      simpa [toStr] using hl⟩) ⟨rfl, ww⟩⟩⟩
theorem i_range1 (_ok : YOk Y) (T : Bis Y.X.mg) (hg : Gl Y.X "range") {WW : (Int → Prop) → Prop} (ha : EvC Y s a WW) (hs : starEach [a] Y.X.env = [(false, eval a Y.X.env)] := by exact star_1 rfl) : ItC Y s tg (.Call (.Name "range" p) [a] [] pos) fun kk => WW fun n => (-(2 ^ 62) ≤ n ∧ n < 2 ^ 62) ∧ kk ((List.range n.toNat).map fun i : Nat => (i : Int)) := fun kk ww =>
  ⟨_, pi_range1 hg (T.no _ (by decide)) (pa_cons pe_we pa_nil hs) hs, fun F0 σ H F R e0 S k => (ha _ ww F0 σ H F e0 S).mono fun v H' ⟨_, _, F', e1, rr, S', n, ea, es, ww⟩ => by
    subst ea es
    have r := rr
    obtain ⟨hc, ww⟩ := ww
    exact ⟨n, by rw [show v = .int n from r], hc.1, hc.2, k _ _ F' _ _ e1 S' (fun i H2 F2 e2 e3 => ⟨fun x hx => by
      rw [List.getElem?_map] at hx
      cases q : (List.range n.toNat)[i]? with
      | none => rw [q] at hx; cases hx
      | some j =>
        rw [q] at hx
        cases hx
        obtain ⟨h5, h6⟩ := List.getElem?_eq_some_iff.mp q
        rw [List.getElem_range] at h6
        subst h6
        rw [List.length_range] at h5
        refine ⟨h5, fun v H3 ⟨eh, hv⟩ => .inl ⟨eh, ?_⟩⟩
        rw [hv]
        show V.int (0 + (i : Int)) = V.int i
        rw [Int.zero_add], fun hl => by
      show n.toNat ≤ i
      simpa using hl⟩) ⟨rfl, ww⟩⟩⟩
theorem i_enum {α : Type} [Enc α] (_ok : YOk Y) (T : Bis Y.X.mg) (hg : Gl Y.X "enumerate") {WW : (List α → Prop) → Prop} (ha : EvC Y s a WW) (hs : starEach [a] Y.X.env = [(false, eval a Y.X.env)] := by exact star_1 rfl) : ItC Y s (.Tuple elts kk tpos) (.Call (.Name "enumerate" p) [a] [] pos) fun kk => WW fun xs => kk (enumD xs) := fun kk ww =>
  ⟨_, pi_enum hg (T.no _ (by decide)) (pa_cons pe_we pa_nil hs) hs, fun F0 σ H F R e0 S k => (ha _ ww F0 σ H F e0 S).mono fun v H' ⟨_, _, F', e1, rr, S', xs, ea, es, ww⟩ => by
    subst ea es
    obtain ⟨p, vs, ev, hq, rv⟩ := rr
    exact ⟨p, vs, by rw [ev], sqL_ext hq S'.ext, k _ _ F' _ _ e1 S' (fun i H2 F2 e2 e3 => ⟨fun x hx => by
      have hq2 := sqL_ext (sqL_ext hq e2) e3
      unfold enumD at hx
      rw [List.getElem?_mapIdx] at hx
      cases q : xs[i]? with
      | none => rw [q] at hx; cases hx
      | some y =>
        rw [q] at hx
        cases hx
        obtain ⟨w, hw, rw'⟩ := prd_get rv q
        refine ⟨⟨vs, w, hq2, hw⟩, fun v H3 ⟨t, x, ev, ht, eh, hv⟩ => .inr ⟨t, _, ht, eh, ev, fun F3 e4 hs3 => ?_⟩⟩
        have := hv vs hq2
        rw [hw] at this
        cases this
        exact ⟨t, _, _, ev, hs3, rfl, Enc.mono rw' (e2.trans e4)⟩, fun hl => ⟨vs, sqL_ext (sqL_ext hq e2) e3, by
      have := Paired.length rv
      unfold enumD at hl
      rw [List.length_mapIdx] at hl
      omega⟩⟩) ⟨rfl, ww⟩⟩⟩
theorem i_keys {WW : (Dct κ ν → Prop) → Prop} (ha : EvC Y s a WW) : ItC Y s tg a fun kk => WW fun m => kk (m.kvs.map (·.1)) := fun kk ww =>
  ⟨_, pi_keys pe_we, fun F0 σ H F R e0 S k => (ha _ ww F0 σ H F e0 S).mono fun v H' ⟨_, _, F', e1, rr, S', m, ea, es, ww⟩ => by
    subst ea es
    obtain ⟨q, od, zs, ev, hq, rv⟩ := rr
    exact ⟨q, od, ev, .inl ⟨zs, S'.ext _ _ hq, k _ _ F' _ _ e1 S' (fun i H2 F2 e2 e3 => ⟨fun x hx => by
      rw [List.getElem?_map] at hx
      cases z : m.kvs[i]? with
      | none => rw [z] at hx; cases hx
      | some y =>
        rw [z] at hx
        cases hx
        obtain ⟨w, hw, r1, r2⟩ := prd_get rv z
        refine ⟨⟨e3 _ _ (e2 _ _ hq), (List.getElem?_eq_some_iff.mp hw).1⟩, fun v H3 ⟨eh, k', v', hk, hv⟩ => .inl ⟨eh, ?_⟩⟩
        rw [hw] at hk
        cases hk
        rw [hv]
        have e := KkV.rep (K := Y.X.K) (F := F2) y.1
        rw [← r1] at e
        exact e, fun hl => ⟨e3 _ _ (e2 _ _ hq), by have := Paired.length rv; rw [List.length_map] at hl; omega⟩⟩) ⟨rfl, ww⟩⟩⟩⟩
theorem i_items {WW : (Dct κ ν → Prop) → Prop} (ha : EvC Y s a WW) (hbase : attributeBase a "items" Y.X.env (eval a Y.X.env) = eval a Y.X.env := by exact ab_ok rfl) (hline : (apos.endLine == cpos.line) = true := by rfl) : ItC Y s (.Tuple elts kk tpos) (.Call (.Attribute a "items" apos) [] [] cpos) fun kk => WW fun m => kk m.kvs := fun kk ww =>
  ⟨_, pi_items pe_we hbase hline, fun F0 σ H F R e0 S k => (ha _ ww F0 σ H F e0 S).mono fun v H' ⟨_, _, F', e1, rr, S', m, ea, es, ww⟩ => by
    subst ea es
    obtain ⟨q, od, zs, ev, hq, rv⟩ := rr
    exact ⟨q, od, zs, ev, S'.ext _ _ hq, k _ _ F' _ _ e1 S' (fun i H2 F2 e2 e3 => ⟨fun y z => by
        obtain ⟨w, hw, r1, r2⟩ := prd_get rv z
        refine ⟨⟨e3 _ _ (e2 _ _ hq), (List.getElem?_eq_some_iff.mp hw).1⟩, fun v H3 ⟨t, k', v', hk, hv, ht, eh⟩ => .inr ⟨t, _, ht, eh, hv, fun F3 e4 hs3 => ?_⟩⟩
        rw [hw] at hk
        cases hk
        have e := KkV.rep (K := Y.X.K) (F := F3) y.1
        rw [← r1] at e
        exact ⟨t, _, _, hv, hs3, e, Enc.mono r2 (e2.trans e4)⟩, fun hl => ⟨e3 _ _ (e2 _ _ hq), by have := Paired.length rv; omega⟩⟩) ⟨rfl, ww⟩⟩⟩theorem i_range2 {Wa Wb : (Int → Prop) → Prop} (_ok : YOk Y) (T : Bis Y.X.mg) (hg : Gl Y.X "range") (ha : EvC Y s a Wa) (hb : EvC Y s b Wb)
    (hs : starEach [a, b] Y.X.env = [(false, eval a Y.X.env), (false, eval b Y.X.env)] := by rfl) (hs2 : starEach [b] Y.X.env = [(false, eval b Y.X.env)] := by exact star_1 rfl) : ItC Y s tg (.Call (.Name "range" p) [a, b] [] pos) fun kk => Wa fun n => Wb fun m => (-(2 ^ 62) ≤ n ∧ n < 2 ^ 62 ∧ -(2 ^ 62) ≤ m ∧ m < 2 ^ 62) ∧ kk ((List.range (m - n).toNat).map fun i : Nat => n + (i : Int)) := fun kk ww =>
  ⟨_, pi_range2 hg (T.no _ (by decide)) (pa_cons pe_we (pa_cons pe_we pa_nil hs2) (by rw [hs, hs2])) hs hs2, fun F0 σ H F R e0 S k => (ha _ ww F σ H F (.refl _) S).mono fun v H' ⟨_, _, F', e1, r, S', n, ea, es, ww⟩ => by
    subst ea es
    refine (hb _ ww F' σ H' F' (.refl _) S').mono fun w H2 ⟨_, _, F2, e2, r2, S2, m, eb, es, ww⟩ => ?_
    subst eb es
    obtain ⟨hc, ww⟩ := ww
    refine ⟨n, m, by rw [show v = .int n from r, show w = .int m from r2], hc, k _ _ F2 _ _ ((e0.trans e1).trans e2) S2 (fun i H2 F2 e2 e3 => ⟨fun x hx => ?_, fun hl => ?_⟩) ⟨rfl, ww⟩⟩
    · rw [List.getElem?_map] at hx
      cases q : (List.range (m - n).toNat)[i]? with
      | none => rw [q] at hx; cases hx
      | some j =>
        rw [q] at hx
        cases hx
        obtain ⟨h5, h6⟩ := List.getElem?_eq_some_iff.mp q
        rw [List.getElem_range] at h6
        subst h6
        rw [List.length_range] at h5
        exact ⟨h5, fun v H3 ⟨eh, hv⟩ => .inl ⟨eh, by rw [hv]; rfl⟩⟩
    · show (m - n).toNat ≤ i
      simpa using hl⟩
end
end Sp
set_option maxHeartbeats 4000000
namespace Sp
open PySem L2
open PySem.W (Datum DatumOrd SomeDatum)
def EvTs (Y : DX) (s : DSt) (ifs : List Expr) (W : (Bool → Prop) → Prop) : Prop := ∀ k : Bool → Prop, W k → Ets Y s ifs fun b s' => s' = s ∧ k b
inductive Each {β α : Type} (P : β → α → Prop) : List β → List α → Prop
  | nil : Each P [] []
  | cons {x : β} {y : α} {xs : List β} {ys : List α} : P x y → Each P xs ys → Each P (x :: xs) (y :: ys)
theorem Each.snoc {β α : Type} {P : β → α → Prop} {xs : List β} {ys : List α} (h : Each P xs ys) {x : β} {y : α} (p : P x y) : Each P (xs ++ [x]) (ys ++ [y]) := by
  induction h with
  | nil => exact .cons p .nil
  | cons q _ ih => exact .cons q ih
theorem Each.len {β α : Type} {P : β → α → Prop} {xs : List β} {ys : List α} (h : Each P xs ys) : ys.length = xs.length := by
  induction h with
  | nil => rfl
  | cons q _ ih => simp [ih]
section
variable {Y : DX} {s : DSt} {tg iter elt : Expr} {ifs : List Expr} {pos spos py gpos p : Pos} {scope : Scope} {α β : Type} [Enc α] [Enc β] {W : (List β → Prop) → Prop} {D : DE} {k : Nat}
theorem ts_nil : EvTs Y s [] fun k => k true := fun k w => ets_nil ⟨rfl, w⟩
theorem ts_one {c : Expr} {V : (Bool → Prop) → Prop} (h : EvT Y s c V) : EvTs Y s [c] V := fun k w => ets_one (h k w)
theorem EvTs.pp {c : List Expr} {V : (Bool → Prop) → Prop} {x : Bool} (h : EvTs Y s c V) (w : V fun y => y = x) : Ets Y s c fun b s' => b = x ∧ s' = s := fun F0 σ H F e0 S => (h _ w F0 σ H F e0 S).mono fun b H' ⟨s', F', e1, S', q1, q2⟩ => ⟨s', F', e1, S', q2, q1⟩
variable {Wc : β → (Bool → Prop) → Prop} {We : β → (α → Prop) → Prop}
structure LcW (Y : DX) (s : DSt) (scope : Scope) (own : List (Str × Nat)) (t : TgD β) (tg iter elt : Expr) (ifs : List Expr) {α : Type} [Enc α] (W : (List α → Prop) → Prop) : Prop where
  bk : BlkOk Y.X.N Y.X.env.scope scope own
  tg0 : ∀ z, TgOk (blkY Y scope z) tg (t.g Y.X.K) t.ws t.f
  hs : ∀ x, foldedSetIterable iter Y.X.env x = pure x
  run : ∀ k, W k → ∃ G, EvItE (β := β) Y s tg iter G ∧ LcG Y scope (own.map (·.2)) tg elt ifs (t.g Y.X.K) t.ws t.f G fun (ys : List α) s' => s' = s ∧ k ys
theorem c_L {t : TgD β} {own : List (Str × Nat)} {W : (List α → Prop) → Prop} (ok : YOk Y) (h : LcW Y s scope own t tg iter elt ifs W) : EvC Y s (.ListComp elt [⟨tg, iter, ifs, 0⟩] scope pos) W := fun k w => by
  obtain ⟨G, hi, L⟩ := h.run k w
  refine ev_lcE (α := α) ok hi h.bk h.tg0 (fun items s' g => ?_) h.hs
  obtain ⟨Iv, L, h0, hQ⟩ := L items s' g
  exact ⟨Iv, L, h0, fun ys gs iv => ⟨ys, rfl, hQ ys gs iv⟩⟩
theorem w1_asgL {t : TgD β} {own : List (Str × Nat)} {W : (List α → Prop) → Prop} {y : Str} {i : Nat} {k : List α → Prop} (ok : YOk Y) (hy : Y.X.N[i]? = some y) (h : LcW Y s scope own t tg iter elt ifs W) (w : W k) (hQ : ∀ ys, k ys → D.nx ⟨s.ρ.set i (some (pu ys)), s.gs⟩)
    (hyl : Y.X.env.scope.names.lookup y = some .local := by rfl) (hsw : swapsWith (.ListComp elt [⟨tg, iter, ifs, 0⟩] scope pos) (some (.Name y py)) spos.line Y.X.env = pure true := by rfl) : W1 Y s (.Assign [.Name y py] (.ListComp elt [⟨tg, iter, ifs, 0⟩] scope pos) spos) D := fun F0 σ H F e0 S => by
  obtain ⟨G, ⟨wi, hp, hw⟩, L⟩ := h.run k w
  have P := ps_setLc (tt := fun σ H Q => ∀ z, WTs (blkX Y.X scope z) ifs σ H Q) (te := fun σ H Q => ∀ z, WE (blkX Y.X scope z) elt σ H Q) ok.calm ok.nd hy hyl hsw hp h.bk (fun s H C cl fp => (h.tg0 ⟨s, H, C, cl, fp⟩).1) (fun s H C cl fp => ⟨fun pins s' σ H' Q I h => (h ⟨s, H, C, cl, fp⟩).run pins s' I⟩) (fun s H C cl fp => ⟨fun pins s' σ H' Q I h => (h ⟨s, H, C, cl, fp⟩).run pins s' I⟩) h.hs
  refine WP.of P ?_
  show tLc wi (t.g Y.X.K) _ _ _ σ H (fun x H1 => gName i x σ H1 (D.to Y F0).nx)
  show wi σ H _
  refine hw F0 σ H F _ e0 S fun J H1 F1 items s' e1 S1 K1 q => ?_
  obtain ⟨Iv, L, h0, hQ2⟩ := L items s' q
  have t := tlc_ok (own := own) (wi := fun _ _ R => R J H1) (F0 := F1) (σ := σ) (H := H1) (Qf := fun x H1 => gName i x σ H1 (D.to Y F0).nx) (fun R k => k J H1 F1 (.refl _) S1 K1) L h0 fun D2 H' F' ys gs e2 S2 iv => by
    obtain ⟨hF, o, ho, hot, vs, ev, rv⟩ := S2.cell (i := 0) (p := D2) (c := lstc ys) rfl
    subst ev
    have S3 := S2.freeze (i := 0) (p := D2) (c := lstc ys) rfl ho
    obtain ⟨es, kk⟩ := hQ2 ys gs iv
    have hq := hQ ys kk
    refine ⟨⟨s'.ρ.set i (some (pu ys)), gs⟩, upd F' D2 (.lst vs), (e1.trans e2).trans (Ext.grow hF), S3.set (A := pu ys) ⟨D2, vs, rfl, .of upd_same, rv.mono (Ext.grow hF)⟩ i, ?_⟩
    rw [← es] at hq
    exact hq
  exact t
theorem lcg_quiet (t : TgD β) (own : List (Str × Nat)) (c : β → Bool) (h : β → α) (items : List β) (tg0 : ∀ z, TgOk (blkY Y scope z) tg (t.g Y.X.K) t.ws t.f) (small : items.length ≤ sizeLine)
    (ht : ∀ z x D ys, EvTs (blkY Y scope z) ⟨t.f x (wipeR s.ρ (own.map (·.2))), (D, lstc (α := α) ys) :: s.gs⟩ ifs (Wc x)) (he : ∀ z x D ys, EvC (blkY Y scope z) ⟨t.f x (wipeR s.ρ (own.map (·.2))), (D, lstc (α := α) ys) :: s.gs⟩ elt (We x))
    (hc : ∀ x ∈ items, Wc x fun b => b = c x) (hv : ∀ x ∈ items, c x = true → We x fun y => y = h x) (sub : ∀ j ∈ t.ws, j ∈ own.map (·.2)) :
    ∃ Iv : Nat → List α → Gs → Prop, LcTurns Y s scope (own.map (·.2)) tg elt ifs (t.g Y.X.K) t.ws t.f items Iv ∧ Iv 0 [] s.gs ∧ ∀ ys gs, Iv items.length ys gs → ys = (items.filter c).map h ∧ gs = s.gs :=
  ⟨_, lc_quiet c h tg0 sub small (fun z x D ys hx => (ht z x D ys).pp (hc x hx)) (fun z x D ys hx hcx => (he z x D ys).pp (hv x hx hcx)), ⟨by simp, rfl⟩, fun ys gs ⟨e1, e2⟩ => ⟨by rw [e1, List.take_length], e2⟩⟩
theorem l_lc (t : TgD β) (own : List (Str × Nat)) (c : β → Bool) (h : β → α) (ok : YOk Y) (hi : ItC Y s tg iter W) (bk : BlkOk Y.X.N Y.X.env.scope scope own) (tg0 : ∀ z, TgOk (blkY Y scope z) tg (t.g Y.X.K) t.ws t.f)
    (ht : ∀ z x D ys, EvTs (blkY Y scope z) ⟨t.f x (wipeR s.ρ (own.map (·.2))), (D, lstc (α := α) ys) :: s.gs⟩ ifs (Wc x)) (he : ∀ z x D ys, EvC (blkY Y scope z) ⟨t.f x (wipeR s.ρ (own.map (·.2))), (D, lstc (α := α) ys) :: s.gs⟩ elt (We x))
    (sub : ∀ j ∈ t.ws, j ∈ own.map (·.2) := by decide) (hs : ∀ x, foldedSetIterable iter Y.X.env x = pure x := by intro _; rfl) :
    LcW Y s scope own t tg iter elt ifs fun k => W fun items => items.length ≤ sizeLine ∧ (∀ x ∈ items, Wc x fun b => b = c x) ∧ (∀ x ∈ items, c x = true → We x fun y => y = h x) ∧ k ((items.filter c).map h) :=
  ⟨bk, tg0, hs, fun k w => ⟨_, hi _ w, fun items s' ⟨es, w1, w2, w3, w4⟩ => by
    subst es
    obtain ⟨Iv, L, h0, hQ⟩ := lcg_quiet (Y := Y) (s := s') t own c h items tg0 w1 ht he w2 w3 sub
    exact ⟨Iv, L, h0, fun ys gs iv => by obtain ⟨e1, e2⟩ := hQ ys gs iv; subst e1 e2; exact ⟨rfl, w4⟩⟩⟩⟩
theorem l_lc0 (t : TgD β) (own : List (Str × Nat)) (h : β → α) (ok : YOk Y) (hi : ItC Y s tg iter W) (bk : BlkOk Y.X.N Y.X.env.scope scope own) (tg0 : ∀ z, TgOk (blkY Y scope z) tg (t.g Y.X.K) t.ws t.f)
    (he : ∀ z x D ys, EvC (blkY Y scope z) ⟨t.f x (wipeR s.ρ (own.map (·.2))), (D, lstc (α := α) ys) :: s.gs⟩ elt (We x))
    (sub : ∀ j ∈ t.ws, j ∈ own.map (·.2) := by decide) (hs : ∀ x, foldedSetIterable iter Y.X.env x = pure x := by intro _; rfl) :
    LcW Y s scope own t tg iter elt [] fun k => W fun items => items.length ≤ sizeLine ∧ (∀ x ∈ items, We x fun y => y = h x) ∧ k (items.map h) :=
  ⟨bk, tg0, hs, fun k w => ⟨_, hi _ w, fun items s' ⟨es, w1, w3, w4⟩ => by
    subst es
    obtain ⟨Iv, L, h0, hQ⟩ := lcg_quiet (Y := Y) (s := s') (Wc := fun _ k => k true) t own (fun _ => true) h items tg0 w1 (fun _ _ _ _ => ts_nil) he (fun _ _ => rfl) (fun x hx _ => w3 x hx) sub
    exact ⟨Iv, L, h0, fun ys gs iv => by obtain ⟨e1, e2⟩ := hQ ys gs iv; rw [List.filter_eq_self.mpr (fun _ _ => rfl)] at e1; subst e1 e2; exact ⟨rfl, w4⟩⟩⟩⟩
theorem l_lcX (t : TgD β) (own : List (Str × Nat)) (ok : YOk Y) (hi : ItC Y s tg iter W) (bk : BlkOk Y.X.N Y.X.env.scope scope own) (tg0 : ∀ z, TgOk (blkY Y scope z) tg (t.g Y.X.K) t.ws t.f)
    (ht : ∀ z x D ys, EvTs (blkY Y scope z) ⟨t.f x (wipeR s.ρ (own.map (·.2))), (D, lstc (α := α) ys) :: s.gs⟩ ifs (Wc x)) (he : ∀ z x D ys, EvC (blkY Y scope z) ⟨t.f x (wipeR s.ρ (own.map (·.2))), (D, lstc (α := α) ys) :: s.gs⟩ elt (We x))
    (sub : ∀ j ∈ t.ws, j ∈ own.map (·.2) := by decide) (hs : ∀ x, foldedSetIterable iter Y.X.env x = pure x := by intro _; rfl) :
    LcW Y s scope own t tg iter elt ifs fun k => W fun items => items.length ≤ sizeLine ∧ ∃ (c : β → Bool) (h : β → α), (∀ x ∈ items, Wc x fun b => b = c x) ∧ (∀ x ∈ items, c x = true → We x fun y => y = h x) ∧ k ((items.filter c).map h) :=
  ⟨bk, tg0, hs, fun k w => ⟨_, hi _ w, fun items s' ⟨es, w1, c, h, w2, w3, w4⟩ => by
    subst es
    obtain ⟨Iv, L, h0, hQ⟩ := lcg_quiet (Y := Y) (s := s') t own c h items tg0 w1 ht he w2 w3 sub
    exact ⟨Iv, L, h0, fun ys gs iv => by obtain ⟨e1, e2⟩ := hQ ys gs iv; subst e1 e2; exact ⟨rfl, w4⟩⟩⟩⟩
theorem l_lcX0 (t : TgD β) (own : List (Str × Nat)) (ok : YOk Y) (hi : ItC Y s tg iter W) (bk : BlkOk Y.X.N Y.X.env.scope scope own) (tg0 : ∀ z, TgOk (blkY Y scope z) tg (t.g Y.X.K) t.ws t.f)
    (he : ∀ z x D ys, EvC (blkY Y scope z) ⟨t.f x (wipeR s.ρ (own.map (·.2))), (D, lstc (α := α) ys) :: s.gs⟩ elt (We x))
    (sub : ∀ j ∈ t.ws, j ∈ own.map (·.2) := by decide) (hs : ∀ x, foldedSetIterable iter Y.X.env x = pure x := by intro _; rfl) :
    LcW Y s scope own t tg iter elt [] fun k => W fun items => items.length ≤ sizeLine ∧ ∃ h : β → α, (∀ x ∈ items, We x fun y => y = h x) ∧ k (items.map h) :=
  ⟨bk, tg0, hs, fun k w => ⟨_, hi _ w, fun items s' ⟨es, w1, h, w3, w4⟩ => by
    subst es
    obtain ⟨Iv, L, h0, hQ⟩ := lcg_quiet (Y := Y) (s := s') (Wc := fun _ k => k true) t own (fun _ => true) h items tg0 w1 (fun _ _ _ _ => ts_nil) he (fun _ _ => rfl) (fun x hx _ => w3 x hx) sub
    exact ⟨Iv, L, h0, fun ys gs iv => by obtain ⟨e1, e2⟩ := hQ ys gs iv; rw [List.filter_eq_self.mpr (fun _ _ => rfl)] at e1; subst e1 e2; exact ⟨rfl, w4⟩⟩⟩⟩
theorem l_lcN (t : TgD β) (own : List (Str × Nat)) (ok : YOk Y) (hi : ItC Y s tg iter W) (bk : BlkOk Y.X.N Y.X.env.scope scope own) (tg0 : ∀ z, TgOk (blkY Y scope z) tg (t.g Y.X.K) t.ws t.f)
    (he : ∀ z x D ys, EvC (blkY Y scope z) ⟨t.f x (wipeR s.ρ (own.map (·.2))), (D, lstc (α := α) ys) :: s.gs⟩ elt (We x))
    (sub : ∀ j ∈ t.ws, j ∈ own.map (·.2) := by decide) (hs : ∀ x, foldedSetIterable iter Y.X.env x = pure x := by intro _; rfl) :
    LcW Y s scope own t tg iter elt [] fun k => W fun items => items.length ≤ sizeLine ∧ ∃ P : β → α → Prop, (∀ x ∈ items, We x (P x)) ∧ ∀ ys, Each P items ys → k ys :=
  ⟨bk, tg0, hs, fun k w => ⟨_, hi _ w, fun items s' ⟨es, w1, P, w3, w4⟩ => by
    subst es
    refine ⟨fun i ys gs => gs = s'.gs ∧ i ≤ items.length ∧ Each P (items.take i) ys, ⟨tg0, sub, fun i ys gs ⟨_, _, h⟩ hi => ?_, fun z i x ys gs D hx ⟨eg, hi, h⟩ => ?_⟩, ⟨rfl, Nat.zero_le _, .nil⟩, fun ys gs ⟨eg, _, h⟩ => ?_⟩
    · rw [h.len, List.length_take]
      omega
    · subst eg
      refine ets_nil ?_
      rw [if_pos rfl]
      intro z'
      have hm : x ∈ items := List.mem_of_getElem? hx
      refine (he z' x D ys).q (w3 x hm) fun y py => ⟨y, s'.gs, rfl, rfl, rfl, ?_, ?_⟩
      · exact (List.getElem?_eq_some_iff.mp hx).1
      · rw [List.take_add_one, hx]
        exact h.snoc py
    · subst eg
      rw [List.take_length] at h
      exact ⟨rfl, w4 ys h⟩⟩⟩
end
end Sp
set_option maxHeartbeats 4000000
namespace Sp
open PySem L2
open PySem.W (Datum DatumOrd SomeDatum)
inductive Ex
  | BadWord | BadRule | BadCount | NoSuch | NoWay | TooLarge | BadDeed
  | BadText (row : Int)
  | BadPaper (part : Int)
deriving DecidableEq
def exK (K : Frag) : Ex → Exc
  | .BadWord => ⟨He.ga K "BadWord", none⟩
  | .BadRule => ⟨He.ga K "BadRule", none⟩
  | .BadCount => ⟨He.ga K "BadCount", none⟩
  | .NoSuch => ⟨He.ga K "NoSuch", none⟩
  | .NoWay => ⟨He.ga K "NoWay", none⟩
  | .TooLarge => ⟨He.ga K "TooLarge", none⟩
  | .BadDeed => ⟨He.ga K "BadDeed", none⟩
  | .BadText r => ⟨He.ga K "BadText", some ("row", r)⟩
  | .BadPaper r => ⟨He.ga K "BadPaper", some ("part", r)⟩
def NoE : Ex → Prop := fun _ => False
def Cl {ρ : Type} (w : (ρ → Prop) → (Ex → Prop) → Prop) (k : ρ → Prop) (E : Ex → Prop) : Prop := ∃ (R0 : ρ → Prop) (E0 : Ex → Prop), w R0 E0 ∧ (∀ r, R0 r → k r) ∧ ∀ e, E0 e → E e
structure YE (Y : DX) (G0 : Gs → Prop) (E : Ex → Prop) : Prop where
  ok : YOk Y
  ex : ∀ e s', (∃ n, G0 (s'.gs.drop n)) → E e → Y.ex (exK Y.X.K e) s'
theorem YE.blk {Y : DX} {G0 : Gs → Prop} {E : Ex → Prop} {scope : Scope} {z : BCx} (h : YE Y G0 E) : YE (blkY Y scope z) (fun _ => True) NoE := ⟨h.ok.blk, fun _ _ _ h => h.elim⟩
theorem YE.gen {Y : DX} {k : Nat} {scope : Scope} {z : GCx} (o : YOk (genY Y k scope z)) : YE (genY Y k scope z) (fun _ => True) NoE := ⟨o, fun _ _ _ h => h.elim⟩
def spF {τ ρ : Type} [Ags τ] [Enc ρ] (K : Frag) (w : τ → (ρ → Prop) → (Ex → Prop) → Prop) : DSp := fun As gs R E => ∃ t, As = Ags.pvs t ∧ gs = [] ∧ ∃ R0 E0, w t R0 E0 ∧ (∀ r, R0 r → R (pu r) []) ∧ ∀ e, E0 e → E (exK K e) []
theorem spF_mono {τ ρ : Type} [Ags τ] [Enc ρ] {K : Frag} {w : τ → (ρ → Prop) → (Ex → Prop) → Prop} : DMono (spF K w) := fun As gs R R' E E' h1 h2 ⟨t, e1, e2, R0, E0, hw, hr, he⟩ => ⟨t, e1, e2, R0, E0, hw, fun r q => h1 _ _ (hr r q), fun e q => h2 _ _ (he e q)⟩
def ClD {ρ : Type} (w : (ρ → Prop) → (Ex → Prop) → Prop) (k : ρ → Prop) : Prop := ∃ R0 : ρ → Prop, w R0 NoE ∧ ∀ r, R0 r → k r
def spD {τ ρ : Type} [Ags τ] [Enc ρ] (w : τ → (ρ → Prop) → (Ex → Prop) → Prop) : DSp := fun As gs R E => ∃ q t, As = raw (.ref q) :: Ags.pvs t ∧ gs = [(q, dicec)] ∧ ClD (w t) fun r => R (pu r) [(q, dicec)]
theorem spD_mono {τ ρ : Type} [Ags τ] [Enc ρ] {w : τ → (ρ → Prop) → (Ex → Prop) → Prop} : DMono (spD w) := fun As gs R R' E E' h1 h2 ⟨q, t, e1, e2, R0, hw, hr⟩ => ⟨q, t, e1, e2, R0, hw, fun r q => h1 _ _ (hr r q)⟩
class Ob (α : Type) where
  cls : Str
  flds : α → Flds
@[reducible] def obEnc {α : Type} (o : Ob α) : Enc α := ⟨fun K F v m => (insP (He.ga K o.cls) (o.flds m)).rep K F v, fun {K F F' v a} h e => Pv.mono _ h e⟩
def spI {τ ρ : Type} [Ags τ] [o : Ob ρ] (K : Frag) (w : τ → (ρ → Prop) → (Ex → Prop) → Prop) : DSp := fun As gs R E => ∃ q t, As = raw (.ref q) :: Ags.pvs t ∧ gs = [(q, insc (He.ga K o.cls) [])] ∧ ∃ R0 E0, w t R0 E0 ∧ (∀ r, R0 r → R (pu ()) [(q, insc (He.ga K o.cls) (o.flds r))]) ∧ ∀ e, E0 e → ∀ fs, E (exK K e) [(q, insc (He.ga K o.cls) fs)]
theorem spI_mono {τ ρ : Type} [Ags τ] [Ob ρ] {K : Frag} {w : τ → (ρ → Prop) → (Ex → Prop) → Prop} : DMono (spI K w) := fun As gs R R' E E' h1 h2 ⟨q, t, e1, e2, R0, E0, hw, hr, he⟩ => ⟨q, t, e1, e2, R0, E0, hw, fun r q => h1 _ _ (hr r q), fun e q fs => h2 _ _ (he e q fs)⟩
section
variable {Y : DX} {s : DSt} {e a b c o tg iter elt : Expr} {es ifs : List Expr} {pos p apos lpos gpos : Pos} {τ ρ α β : Type} [Ags τ] [Enc ρ] [Enc α] [Enc β] {G0 : Gs → Prop} {E : Ex → Prop} {V : (τ → Prop) → Prop} {w : τ → (ρ → Prop) → (Ex → Prop) → Prop} {ps : List Str} {j : Nat}
theorem c_call {x : Str} (n : Nat) (ye : YE Y G0 E) (G : Df Y.X.prog Y.X.w Y.X.K Y.X.mg Y.X.base Y.T j x ps (spF Y.X.K w)) (hj : j ≤ Y.k) (hg : Gl Y.X x) (h : EvA Y s (e :: es) V) (hl : ∀ t : τ, (Ags.pvs t).length = ps.length) (hn : G0 (s.gs.drop n))
    (hdb : (x == ("__debug__" : Str)) = false := by decide) (he : starEach (e :: es) Y.X.env = (false, eval e Y.X.env) :: starEach es Y.X.env := by exact star_c rfl) (hpl : (backTo pos (starEach es Y.X.env)).any (·.1) = false := by exact star_any rfl) : EvC Y s (.Call (.Name x p) (e :: es) [] pos) fun k => V fun t => Cl (w t) k E := fun k ww =>
  ev_call G ye.ok hj hg ((h _ ww).mono fun As s1 ⟨t, ea, es, R0, E0, w0, hr, hE⟩ => by
    subst es
    exact ⟨by rw [ea]; exact hl t, [], s1.gs, .refl _, t, ea, rfl, R0, E0, w0, fun r q => ⟨r, rfl, rfl, hr r q⟩, fun e q => ye.ex e _ ⟨n, hn⟩ (hE e q)⟩) hdb he hpl
theorem c_call0 {x : Str} {w : Unit → (ρ → Prop) → (Ex → Prop) → Prop} (n : Nat) (ye : YE Y G0 E) (G : Df Y.X.prog Y.X.w Y.X.K Y.X.mg Y.X.base Y.T j x ps (spF Y.X.K w)) (hj : j ≤ Y.k) (hg : Gl Y.X x) (hl : ps.length = 0) (hn : G0 (s.gs.drop n))
    (hdb : (x == ("__debug__" : Str)) = false := by decide) : EvC Y s (.Call (.Name x p) [] [] pos) fun k => Cl (w ()) k E := fun k ⟨R0, E0, w0, hr, hE⟩ =>
  ev_call0 G ye.ok hj hg ⟨hl, [], s.gs, .refl _, (), rfl, rfl, R0, E0, w0, fun r q => ⟨r, rfl, rfl, hr r q⟩, fun e q => ye.ex e _ ⟨n, hn⟩ (hE e q)⟩ hdb
theorem perm_front {α : Type} : ∀ {l : List α} {i : Nat} {x : α}, l[i]? = some x → l.Perm ([x] ++ l.eraseIdx i)
  | [], i, x, h => by simp at h
  | y :: l, 0, x, h => by simp at h; subst h; exact .refl _
  | y :: l, i + 1, x, h => by
    have ih := perm_front (l := l) (i := i) (x := x) (by simpa using h)
    rw [List.eraseIdx_cons_succ]
    exact (ih.cons y).trans (.swap _ _ _)
theorem c_callD {x y : Str} {q : Addr} {py : Pos} (i g : Nat) (ok : YOk Y) (G : Df Y.X.prog Y.X.w Y.X.K Y.X.mg Y.X.base Y.T j x ps (spD w)) (hj : j ≤ Y.k) (hg : Gl Y.X x) (h : EvA Y s es V) (hN : Y.X.N[i]? = some y) (hρ : s.ρ[i]? = some (some (raw (.ref q)))) (hd : s.gs[g]? = some (q, dicec)) (hl : ∀ t : τ, (Ags.pvs t).length + 1 = ps.length)
    (hv : Vis Y.X.env.scope y := by first | exact .inl rfl | exact .inr (.inl rfl) | exact .inr (.inr rfl)) (hd1 : (y == ("__debug__" : Str)) = false := by decide) (hcd : (y == ("__classdict__" : Str)) = false := by decide)
    (hdb : (x == ("__debug__" : Str)) = false := by decide) (he : starEach (.Name y py :: es) Y.X.env = (false, eval (.Name y py) Y.X.env) :: starEach es Y.X.env := by exact star_c rfl) (hpl : (backTo pos (starEach es Y.X.env)).any (·.1) = false := by exact star_any rfl) : EvC Y s (.Call (.Name x p) (.Name y py :: es) [] pos) fun k => V fun t => ClD (w t) k := fun k ww =>
  ev_perm (ev_call G ok hj hg (evs_cons (.of (evp_v i hN hρ hv hd1 hcd) ((h _ ww).mono fun As s1 ⟨t, ea, es, R0, w0, hr⟩ => by
    subst es
    exact ⟨by rw [ea, List.length_cons]; exact hl t, _, _, perm_front hd, q, t, by rw [ea], rfl, R0, w0, fun r qq => ⟨_, (perm_front hd).symm, r, rfl, rfl, hr r qq⟩⟩)) he) hdb he hpl)
theorem ev_as {Q : Pv → DSt → Prop} (h : Ev Y s e fun A s' => ∃ B, (∀ F v, A.rep Y.X.K F v → B.rep Y.X.K F v) ∧ Q B s') : Ev Y s e Q := fun F0 σ H F e0 S => (h F0 σ H F e0 S).mono fun v H' ⟨A, s', F', e1, r, S', B, hb, q⟩ => ⟨B, s', F', e1, hb _ _ r, S', q⟩
section
variable {γ : Type} [og : Ob γ] [eg : Enc γ]
class ObOk (γ : Type) [Ob γ] [Enc γ] : Prop where
  eq : ∀ {K F v} {m : γ}, Enc.rep K F v m ↔ (insP (He.ga K (Ob.cls γ)) (Ob.flds m)).rep K F v
theorem ia_ob [ObOk γ] {m : γ} : IA Y s (pu m) (He.ga Y.X.K (Ob.cls γ)) (Ob.flds m) := fun σ H F v S r => IA.pu σ H F v S (ObOk.eq.mp r)
theorem c_fld [ObOk γ] {f : Str} {W : (γ → Prop) → Prop} (get : γ → α) (c : Cls Y.X.K (He.ga Y.X.K (Ob.cls γ))) (nn : NoAttr Y.X.K (He.ga Y.X.K (Ob.cls γ)) f) (ho : EvC Y s o W) (l : ∀ m : γ, (Ob.flds m).lookup f = some (pu (get m)) := by intro _; rfl) (hb : attributeBase o f Y.X.env (eval o Y.X.env) = eval o Y.X.env := by exact ab_ok rfl) : EvC Y s (.Attribute o f pos) fun k => W fun m => k (get m) := fun k w F0 σ H F e0 S => by
  refine .of (pe_fld pe_we hb) ((ho _ w F0 σ H F e0 S).mono fun v H1 ⟨_, _, F1, e1, r1, S1, m, ea, es, ww⟩ => ?_)
  subst ea es
  obtain ⟨a, dx, vs, ev, ha, rf⟩ := ia_ob σ H1 F1 v S1 r1
  obtain ⟨u, l2, ru⟩ := fr_look rf (l m)
  exact ⟨a, _, dx, vs, u, ev, ha, c, nn, l2, _, _, F1, e1, ru, S1, _, rfl, rfl, ww⟩
theorem c_meth [ObOk γ] {m : Str} {Wo : (γ → Prop) → Prop} {w : γ × τ → (ρ → Prop) → (Ex → Prop) → Prop} {pl : Sem Bool} (n : Nat) (ye : YE Y G0 E) (G : Mt Y.X.prog Y.X.w Y.X.K Y.X.mg Y.X.base Y.T j (He.ga Y.X.K (Ob.cls γ)) m ps (spF Y.X.K w)) (c : Cls Y.X.K (He.ga Y.X.K (Ob.cls γ))) (hj : j ≤ Y.k) (ho : EvC Y s o Wo) (h : EvA Y s (e :: es) V) (hl : ∀ t : τ, (Ags.pvs t).length + 1 = ps.length) (hn : G0 (s.gs.drop n))
    (hf : ∀ x : γ, (Ob.flds x).lookup m = none := by intro _; rfl) (hst : starEach (e :: es) Y.X.env = (false, eval e Y.X.env) :: starEach es Y.X.env := by exact star_c rfl) (hpl : (backTo pos (starEach es Y.X.env)).any (·.1) = false := by exact star_any rfl)
    (ht : eval (.Call (.Attribute o m apos) (e :: es) [] pos) Y.X.env = (do
      let ov ← eval o Y.X.env
      standAt apos.atName
      let (f, first) ← holding [ov] (getMethod ov m pl)
      callWith pos f first (backTo pos (starEach (e :: es) Y.X.env)) (backToKw pos (keywordEach [] Y.X.env))) := by rfl) : EvC Y s (.Call (.Attribute o m apos) (e :: es) [] pos) fun k => Wo fun x => V fun t => Cl (w (x, t)) k E := fun k ww F0 σ H F e0 S => by
  obtain ⟨⟨f, fd, F1, hm, hb⟩, mono⟩ := G
  refine .of (pe_methS (E := L2.WE (wxOf Y)) pe_we c hm F1 (ye.ok.room.mono hj) hb (fun σ => passAt ye.ok.tk σ) pa_wa hst hpl ht) ?_
  refine (ho _ ww F σ H F (.refl _) S).mono fun v H1 ⟨_, _, F1, e1, r1, S1, x, ea, es, ww⟩ => ?_
  subst ea es
  obtain ⟨a, dx, vs, ev, ha, rf⟩ := ia_ob σ H1 F1 v S1 r1
  refine ⟨a, dx, vs, ev, ha, fr_no rf (hf x), ?_⟩
  refine (h _ ww F1 σ H1 F1 (.refl _) S1).mono fun us H2 ⟨_, _, F2, e2, r2, S2, t, ea, es, R0, E0, w0, hr, hE⟩ => ?_
  subst ea es
  refine sp_call (gs1 := []) ((e0.trans e1).trans e2) S2 (.cons ((pu x).mono r1 e2) r2) (by rw [List.length_cons]; exact hl t) (.refl _) ?_ (mono _ _)
  exact ⟨(x, t), rfl, rfl, R0, E0, w0, fun r q => ⟨r, rfl, rfl, hr r q⟩, fun e q => ye.ex e _ ⟨n, hn⟩ (hE e q)⟩
theorem ev_makeE {x : Str} {C : Addr} {Q : Pv → DSt → Prop} {dd : DSp} (G : Mkr Y.X.prog Y.X.w Y.X.K Y.X.mg Y.X.base Y.T j x C ps dd) (ok : YOk Y) (hj : j + 1 ≤ Y.k) (hg : Gl Y.X x)
    (h : Evs Y s (e :: es) fun As s1 => As.length + 1 = ps.length ∧ ∀ q, ∃ gs1 gs2, s1.gs.Perm (gs1 ++ gs2) ∧ dd (raw (.ref q) :: As) ((q, insc C []) :: gs1)
      (fun A gs' => A = pu () ∧ ∃ fs gs3, gs' = (q, insc C fs) :: gs3 ∧ Q (insP C fs) ⟨s1.ρ, gs3 ++ gs2⟩) (fun e gs' => Y.ex e ⟨s1.ρ, gs' ++ gs2⟩))
    (hdb : (x == ("__debug__" : Str)) = false := by decide) (he : starEach (e :: es) Y.X.env = (false, eval e Y.X.env) :: starEach es Y.X.env := by exact star_c rfl) (hpl : (backTo pos (starEach es Y.X.env)).any (·.1) = false := by exact star_any rfl) : Ev Y s (.Call (.Name x p) (e :: es) [] pos) Q := fun F0 σ H F e0 S => by
  obtain ⟨⟨f, fd, F1, M, hb⟩, hm, mono⟩ := G
  refine .of (pe_makeS (E := L2.WE (wxOf Y)) M F1 (ok.room.mono hj) hg hm hb (fun σ => passAt ok.tk σ) pa_wa hdb he hpl) ?_
  refine (h F0 σ H F e0 S).mono fun us H1 ⟨As, s1, F1, e1, r1, S1, hl, k⟩ => ?_
  intro q dx hq hdx hne
  obtain ⟨gs1, gs2, hp, hd⟩ := k q
  have S2 := S1.newF (o := .own q) hdx rfl
  have hq2 : (upd H1 dx (.own q)) q = none := by rw [upd_ne (Ne.symm hne)]; exact hq
  have S3 := S2.newO (o := .ins C dx []) (c := insc C []) hq2 rfl ⟨dx, [], rfl, .nil⟩
  have hp3 : ((q, insc C []) :: s1.gs).Perm (((q, insc C []) :: gs1) ++ gs2) := hp.cons _
  have e2 : Ext F1 (upd F1 dx (.own q)) := Ext.grow (S1.free hdx)
  have sp := sp_call (Q := fun A s' => A = pu () ∧ ∃ fs gs3, s'.gs = (q, insc C fs) :: gs3 ∧ s'.ρ = s1.ρ ∧ Q (insP C fs) ⟨s1.ρ, gs3⟩) (As := raw (.ref q) :: As) (n := ps.length) (d := dd) (F0 := F0) (e1.trans e2) S3 (.cons rfl (r1.mono e2)) (by rw [List.length_cons]; exact hl) hp3
    (mono _ _ _ _ _ _ (fun A g ⟨ea, fs, gs3, eg, q2⟩ => ⟨ea, fs, gs3 ++ gs2, by rw [eg]; rfl, rfl, q2⟩) (fun e g q2 => q2) hd) (mono _ _)
  obtain ⟨hlen, As', gs', F', rr, G', d'⟩ := sp
  refine ⟨hlen, As', gs', F', rr, G', mono _ _ _ _ _ _ (fun A g q3 v H' F'' ra G2 st => ?_) (fun e g q3 => q3) d'⟩
  obtain ⟨B, s4, F4, e4, r4, S4, eb, fs, gs3, eg, eρ, q4⟩ := q3 v H' F'' ra G2 st
  have hc : s4.gs[0]? = some (q, insc C fs) := by rw [eg]; rfl
  obtain ⟨hF, oo, hoo, _, dx2, vs, eo, rv⟩ := S4.cell hc
  subst eo
  have S5 := S4.freeze hc hoo
  have eg5 : s4.gs.eraseIdx 0 = gs3 := by rw [eg]; rfl
  rw [eg5, eρ] at S5
  subst eb
  exact ⟨r4, insP C fs, _, _, e4.trans (Ext.grow hF), ⟨q, dx2, vs, rfl, upd_same, rv.mono (Ext.grow hF)⟩, S5, q4⟩
theorem c_make [ObOk γ] {x : Str} {w : τ → (γ → Prop) → (Ex → Prop) → Prop} (n : Nat) (ye : YE Y G0 E) (G : Mkr Y.X.prog Y.X.w Y.X.K Y.X.mg Y.X.base Y.T j x (He.ga Y.X.K (Ob.cls γ)) ps (spI Y.X.K w)) (hj : j + 1 ≤ Y.k) (hg : Gl Y.X x) (h : EvA Y s (e :: es) V) (hl : ∀ t : τ, (Ags.pvs t).length + 1 = ps.length) (hn : G0 (s.gs.drop n))
    (hdb : (x == ("__debug__" : Str)) = false := by decide) (he : starEach (e :: es) Y.X.env = (false, eval e Y.X.env) :: starEach es Y.X.env := by exact star_c rfl) (hpl : (backTo pos (starEach es Y.X.env)).any (·.1) = false := by exact star_any rfl) : EvC Y s (.Call (.Name x p) (e :: es) [] pos) fun k => V fun t => Cl (w t) k E := fun k ww =>
  ev_as (ev_makeE G ye.ok hj hg ((h _ ww).mono fun As s1 ⟨t, ea, es, R0, E0, w0, hr, hE⟩ => by
    subst ea es
    refine ⟨hl t, fun q => ⟨[], _, .refl _, q, t, rfl, rfl, R0, E0, w0, fun r qq => ⟨rfl, _, [], rfl, pu r, fun F v h => ObOk.eq.mpr h, r, rfl, rfl, hr r qq⟩, fun e qq fs => ye.ex e _ ⟨n + 1, ?_⟩ (hE e qq)⟩⟩
    exact hn) hdb he hpl)
end
end
end Sp
set_option maxHeartbeats 4000000
namespace Sp
open PySem L2
open PySem.W (Datum DatumOrd SomeDatum)
section
variable {Y : DX} {s : DSt} {e a b c o tg iter elt body : Expr} {es ifs : List Expr} {pos p apos lpos gpos : Pos} {α β : Type} [Enc α] [Enc β] {G0 : Gs → Prop} {E : Ex → Prop} {k : Nat} {scope : Scope}
theorem Sta.dropN {σ : St} {H F : Hp} : ∀ (n : Nat) {s : DSt}, Sta Y s σ H F → Sta Y ⟨s.ρ, s.gs.drop n⟩ σ H F
  | 0, s, S => S
  | n + 1, s, S => by
    have S1 := S.drop 0
    rw [List.eraseIdx_zero] at S1
    have S2 := Sta.dropN n S1
    rw [show s.gs.drop (n + 1) = s.gs.tail.drop n by rw [← List.drop_one, List.drop_drop, Nat.add_comm]]
    exact S2
theorem ev_dropN {Q : Pv → DSt → Prop} (h : Ev Y s e fun A s' => ∃ n, Q A ⟨s'.ρ, s'.gs.drop n⟩) : Ev Y s e Q := fun F0 σ H F e0 S => (h F0 σ H F e0 S).mono fun v H1 ⟨A, s1, F1, e1, r1, S1, n, q⟩ => ⟨A, _, F1, e1, r1, S1.dropN n, q⟩
structure LZ where
  A : Around
  outer : List Env
  s1 : Shared
  Hc : Hp
  E : XK
  f : Addr
  c' : Addr
  H : Hp
  F : Hp
  ex : Exc → DSt → Prop
abbrev lzY (Y : DX) (k : Nat) (scope : Scope) (gs : Gs) (z : LZ) : DX := lamY Y k z.A z.outer z.s1 z.Hc z.E scope z.f z.c' z.H z.F gs z.ex
theorem c_told {x : Str} {l : Cls_} {params : Arguments} {We : (Ex → Prop) → (α → Prop) → Prop} (k : Nat) (inj : α → β) (tin : Txt → β) (tl : Ex → Option Txt) (G : Told Y.X x l) (htl : ∀ e t, tl e = some t → Tell Y.X.K l (exK Y.X.K e).C t) (tb : Tbl Y.X Y.T (.plain (Y.X.env.qual ++ "<lambda>"))) (ok : YOk Y) (hk : k + 2 ≤ Y.k) (hg : Gl Y.X x) (L : LamX.LamS Y.X.env.scope scope)
    (hi : ∀ K F v (m : α), Enc.rep K F v m → Enc.rep K F v (inj m)) (ht : ∀ K F v (m : Txt), Enc.rep K F v m → Enc.rep K F v (tin m))
    (h : ∀ (z : LZ) (E : Ex → Prop), YE (lzY Y k scope s.gs z) (fun gs => gs = s.gs) E → EvC (lzY Y k scope s.gs z) s body (We E))
    (hdef : defaultsOf params Y.X.env = ([], []) := by rfl) (hbind : ∀ (q : Str) (cl : List (Str × Addr)) (pm cv ctv : Value), bindArgs (PySem.W.kla_fn "<lambda>" q params body scope cl pm cv ctv) ⟨[], []⟩ = pure [] := by intros; rfl)
    (hdb : (x == ("__debug__" : Str)) = false := by decide) : EvC Y s (.Call (.Name x p) [.Lambda params body scope lpos] [] pos) fun kk => We (fun e => ∃ t, tl e = some t ∧ kk (tin t)) fun r => kk (inj r) := fun kk w =>
  ev_as (ev_dropN (ev_told G tb ok hk hg L (fun A outer s1 Hc E0 f c' H F => by
    intro Y' ok'
    refine (h ⟨A, outer, s1, Hc, E0, f, c', H, F, _⟩ _ ⟨ok', fun e s' ⟨n, hn⟩ he => ?_⟩).q w fun r hr => ?_
    · obtain ⟨t, h1, h2⟩ := he
      exact ⟨t, htl e t h1, n, pu (tin t), fun F v r => ht _ _ _ _ r, tin t, rfl, by rw [hn], h2⟩
    · exact ⟨0, pu (inj r), fun F v q => hi _ _ _ _ q, inj r, rfl, rfl, hr⟩) hdef hbind hdb))
theorem ItC.pp {W : (List β → Prop) → Prop} {items : List β} (h : ItC Y s tg iter W) (w : W fun is => is = items) : EvIt Y s tg iter items := by
  obtain ⟨wi, h1, h2⟩ := h _ w
  exact ⟨wi, h1, fun F0 σ H F R e0 S k => h2 F0 σ H F R e0 S fun J H' F' is s' e1 S1 K1 ⟨g1, g2⟩ => by subst g1 g2; exact k J H' F' e1 S1 K1⟩
section
variable {W : (List β → Prop) → Prop} {Wc : β → (Bool → Prop) → Prop}
theorem gturns {γ : Type} [Enc γ] {We : β → (γ → Prop) → Prop} (t : TgD β) (k : Nat) (vs : List Nat) (items : List β) (c : β → Bool) (h : β → γ) (tg0 : ∀ z, TgOk (genY Y k scope z) tg (t.g Y.X.K) t.ws t.f)
    (ht : ∀ z, YOk (genY Y k scope z) → ∀ x, EvTs (genY Y k scope z) ⟨t.f x (wipeR s.ρ vs), s.gs⟩ ifs (Wc x)) (he : ∀ z, YOk (genY Y k scope z) → ∀ x, EvC (genY Y k scope z) ⟨t.f x (wipeR s.ρ vs), s.gs⟩ elt (We x))
    (hc : ∀ x ∈ items, Wc x fun b => b = c x) (hv : ∀ x ∈ items, c x = true → We x fun y => y = h x) (sub : ∀ j ∈ t.ws, j ∈ vs) : GTurns Y k s scope noOw vs tg elt ifs (t.g Y.X.K) t.ws t.f items c h :=
  ⟨tg0, sub, fun z o x hx => (ht z o x).pp (hc x hx), fun z o x hx hcx => (he z o x).pp (hv x hx hcx)⟩
theorem c_any {We : β → (Bool → Prop) → Prop} (t : TgD β) (k : Nat) (vs : List Nat) (items : List β) (c h : β → Bool) (ok : YOk Y) (B : Bis Y.X.mg) (hg : Gl Y.X "any") (hk : k + 2 ≤ Y.k) (hi : ItC Y s tg iter W) (G : GenOk Y.X.N Y.X.env.scope scope vs) (tb : TbG Y.X Y.T (Y.X.env.qual ++ "<genexpr>") gpos noOw) (tg0 : ∀ z, TgOk (genY Y k scope z) tg (t.g Y.X.K) t.ws t.f)
    (ht : ∀ z, YOk (genY Y k scope z) → ∀ x, EvTs (genY Y k scope z) ⟨t.f x (wipeR s.ρ vs), s.gs⟩ ifs (Wc x)) (he : ∀ z, YOk (genY Y k scope z) → ∀ x, EvC (genY Y k scope z) ⟨t.f x (wipeR s.ρ vs), s.gs⟩ elt (We x)) (sub : ∀ j ∈ t.ws, j ∈ vs := by decide) (hs : ∀ x, genFold iter Y.X.env x = pure x := by intro _; rfl)
    (hst : starEach [.GeneratorExp elt [⟨tg, iter, ifs, 0⟩] scope gpos] Y.X.env = (false, eval (.GeneratorExp elt [⟨tg, iter, ifs, 0⟩] scope gpos) Y.X.env) :: starEach [] Y.X.env := by exact star_c rfl) :
    EvC Y s (.Call (.Name "any" p) [.GeneratorExp elt [⟨tg, iter, ifs, 0⟩] scope gpos] [] pos) fun kk => (W fun is => is = items) ∧ (∀ x ∈ items, Wc x fun b => b = c x) ∧ (∀ x ∈ items, c x = true → We x fun y => y = h x) ∧ kk ((items.filter c).any h) := fun kk ⟨w1, w2, w3, w4⟩ =>
  .of ((evp_any ok B hg hk (hi.pp w1) G tb (gturns t k vs items c h tg0 ht he w2 w3 sub) hs hst).to (by rw [List.any_map]; rfl)) ⟨_, rfl, rfl, w4⟩
theorem c_sumG {We : β → (Int → Prop) → Prop} (t : TgD β) (k : Nat) (vs : List Nat) (items : List β) (c : β → Bool) (h : β → Int) (ok : YOk Y) (B : Bis Y.X.mg) (hg : Gl Y.X "sum") (hk : k + 2 ≤ Y.k) (hi : ItC Y s tg iter W) (G : GenOk Y.X.N Y.X.env.scope scope vs) (tb : TbG Y.X Y.T (Y.X.env.qual ++ "<genexpr>") gpos noOw) (tg0 : ∀ z, TgOk (genY Y k scope z) tg (t.g Y.X.K) t.ws t.f)
    (ht : ∀ z, YOk (genY Y k scope z) → ∀ x, EvTs (genY Y k scope z) ⟨t.f x (wipeR s.ρ vs), s.gs⟩ ifs (Wc x)) (he : ∀ z, YOk (genY Y k scope z) → ∀ x, EvC (genY Y k scope z) ⟨t.f x (wipeR s.ρ vs), s.gs⟩ elt (We x)) (sub : ∀ j ∈ t.ws, j ∈ vs := by decide) (hs : ∀ x, genFold iter Y.X.env x = pure x := by intro _; rfl)
    (hst : starEach [.GeneratorExp elt [⟨tg, iter, ifs, 0⟩] scope gpos] Y.X.env = (false, eval (.GeneratorExp elt [⟨tg, iter, ifs, 0⟩] scope gpos) Y.X.env) :: starEach [] Y.X.env := by exact star_c rfl) :
    EvC Y s (.Call (.Name "sum" p) [.GeneratorExp elt [⟨tg, iter, ifs, 0⟩] scope gpos] [] pos) fun kk => (W fun is => is = items) ∧ (∀ x ∈ items, Wc x fun b => b = c x) ∧ (∀ x ∈ items, c x = true → We x fun y => y = h x) ∧ SumOk ((items.filter c).map h) ∧ kk ((items.filter c).map h).sum := fun kk ⟨w1, w2, w3, w5, w4⟩ =>
  .of (evp_sumG ok B hg hk (hi.pp w1) G tb (gturns t k vs items c h tg0 ht he w2 w3 sub) w5 hs hst) ⟨_, rfl, rfl, w4⟩
end
end
end Sp
set_option maxHeartbeats 4000000
namespace Sp
open PySem L2
open PySem.W (Datum DatumOrd SomeDatum)
def EvN (Y : DX) (s : DSt) (e : Expr) {α : Type} [Enc α] (W : (List α → Prop) → Prop) : Prop := ∀ k : List α → Prop, W k → Ev Y s e fun A s' => ∃ p xs, A = raw (.ref p) ∧ s' = ⟨s.ρ, (p, lstc xs) :: s.gs⟩ ∧ k xs
def EvM (Y : DX) (s : DSt) (e : Expr) {κ ν : Type} [Kk κ] [Enc ν] (W : (List (κ × ν) → Prop) → Prop) : Prop := ∀ k : List (κ × ν) → Prop, W k → Ev Y s e fun A s' => ∃ p m, A = raw (.ref p) ∧ s' = ⟨s.ρ, (p, dctc m) :: s.gs⟩ ∧ k m
def forW {β Z : Type} (items : List β) (z0 : Z) (body : β → Z → (Z → Prop) → Prop) (rest : Z → Prop) : Prop :=
  ∃ Iv : Nat → Z → Prop, Iv 0 z0 ∧ (∀ i x z, items[i]? = some x → Iv i z → body x z (Iv (i + 1))) ∧ ∀ z, Iv items.length z → rest z
def whileW {Z : Type} (z0 : Z) (cond : Z → (Bool → Prop) → Prop) (body : Z → (Z → Prop) → Prop) (rest : Z → Prop) : Prop :=
  ∃ (Iv : Z → Prop) (μ : Z → Nat), Iv z0 ∧ ∀ z, Iv z → cond z fun b => (b = true → body z fun z' => Iv z' ∧ μ z' < μ z) ∧ (b = false → rest z)
section
variable {Y : DX} {s : DSt} {e a b c o tg iter elt : Expr} {es ifs : List Expr} {pos p p2 apos : Pos} {α β γ : Type} [Enc α] [Enc β] [Enc γ] {D : DE} {sts : List Stmt} {x y : Str}
section
variable {κ ν : Type} [DecidableEq κ] [Kk κ] [Enc κ] [KkV κ] [Enc ν]
theorem m_new : EvM Y s (.Dict [] [] pos) fun k => k ([] : List (κ × ν)) := fun k w => ev_dnew fun p => ⟨p, [], rfl, rfl, w⟩
end
section
variable {R : α → Prop} {W : (α → Prop) → Prop}
theorem s_asg (i : Nat) (ok : YOk Y) (hi : Y.X.N[i]? = some x) (he : EvC Y s e W) (next : ∀ v, R v → Ws Y ⟨s.ρ.set i (some (pu v)), s.gs⟩ sts D) (w : W R)
    (hx : Loc Y.X.env.scope x := by first | exact .inl rfl | exact .inr rfl) (hs : swapsWith e (some (.Name x p2)) pos.line Y.X.env = pure false := by rfl) (hf : Y.X.fn x = true ∨ Y.X.env.scope.names.lookup x = some .local := by first | exact .inl rfl | exact .inr rfl) : Ws Y s (.Assign [.Name x p2] e pos :: sts) D :=
  ws_cons (w1_set i ok hi hx (he.q w fun v r => next v r) hs hf)
theorem s_asgL {t : TgD β} {own : List (Str × Nat)} {R : List α → Prop} {W : (List α → Prop) → Prop} {scope : Scope} {spos : Pos} (i : Nat) (ok : YOk Y) (hi : Y.X.N[i]? = some x) (h : LcW Y s scope own t tg iter elt ifs W) (next : ∀ v, R v → Ws Y ⟨s.ρ.set i (some (pu v)), s.gs⟩ sts D) (w : W R)
    (hyl : Y.X.env.scope.names.lookup x = some .local := by rfl) (hsw : swapsWith (.ListComp elt [⟨tg, iter, ifs, 0⟩] scope pos) (some (.Name x p2)) spos.line Y.X.env = pure true := by rfl) : Ws Y s (.Assign [.Name x p2] (.ListComp elt [⟨tg, iter, ifs, 0⟩] scope pos) spos :: sts) D :=
  ws_cons (w1_asgL ok hi h w (fun ys k => next ys k) hyl hsw)
theorem s_asgT (t : TgD α) (hg : TgOk Y tg (t.g Y.X.K) t.ws t.f) (he : EvC Y s e W) (next : ∀ v, R v → Ws Y ⟨t.f v s.ρ, s.gs⟩ sts D) (w : W R)
    (hs : swapsWithSole [tg] e pos.line Y.X.env = pure false := by rfl) (hw : swappedStores [tg] e Y.X.env = pure none := by rfl) (h1 : (assignEach [tg] Y.X.env).map (·.2) = [assign tg Y.X.env] := by rfl) : Ws Y s (.Assign [tg] e pos :: sts) D :=
  ws_cons (w1_asg hg (he.q w fun v r => ⟨v, rfl, next v r⟩) hs hw h1)
theorem s_par {px py pt pt2 : Pos} {kt k2 : Nat} {R : α → β → Prop} {Wa : (α → Prop) → Prop} {Wb : (β → Prop) → Prop} (i j : Nat) (ok : YOk Y) (hi : Y.X.N[i]? = some x) (hj : Y.X.N[j]? = some y) (ha : EvC Y s a Wa) (hb : EvC Y s b Wb) (next : ∀ u v, R u v → Ws Y ⟨(s.ρ.set i (some (pu u))).set j (some (pu v)), s.gs⟩ sts D) (w : Wa fun u => Wb fun v => R u v)
    (hij : i ≠ j := by decide) (hx : Y.X.env.scope.names.lookup x = some .local := by rfl) (hy : Y.X.env.scope.names.lookup y = some .local := by rfl) (he : starEach [a, b] Y.X.env = (false, eval a Y.X.env) :: starEach [b] Y.X.env := by exact star_c rfl) (he2 : starEach [b] Y.X.env = (false, eval b Y.X.env) :: starEach [] Y.X.env := by exact star_c rfl)
    (hw : swappedStores [.Tuple [.Name x px, .Name y py] kt pt] (.Tuple [a, b] k2 pt2) Y.X.env = pure (some [x, y]) := by rfl) (hs : swapsWithSole [.Tuple [.Name x px, .Name y py] kt pt] (.Tuple [a, b] k2 pt2) pos.line Y.X.env = pure false := by rfl) : Ws Y s (.Assign [.Tuple [.Name x px, .Name y py] kt pt] (.Tuple [a, b] k2 pt2) pos :: sts) D :=
  ws_cons (w1_par ok hi hj hij hx hy (evs_cons (ha.q w fun u w => evs_cons (hb.q w fun v w => evs_nil ⟨_, _, rfl, next u v w⟩) he2) he) hw hs)
theorem s_ret (he : EvC Y s e W) (w : W R) (q : ∀ v, R v → D.rt (pu v) s) : Ws Y s (.Return (some e) pos :: sts) D := ws_cons (w1_ret (he.q w fun v r => q v r))
theorem s_if {B C : Prop} {A1 A2 : List Stmt} {Wc : (Bool → Prop) → Prop} (hc : EvT Y s c Wc) (h1 : B → Ws Y s A1 { D with nx := fun s' => Ws Y s' sts D }) (h2 : C → Ws Y s A2 { D with nx := fun s' => Ws Y s' sts D }) (w : Wc fun t => (t = true → B) ∧ (t = false → C)) : Ws Y s (.If c A1 A2 pos :: sts) D :=
  ws_cons (w1_if (hc.q w fun t r => by
    cases t with
    | true => rw [if_pos rfl]; exact h1 (r.1 rfl)
    | false => rw [if_neg Bool.false_ne_true]; exact h2 (r.2 rfl)))
end
section
variable {Z J : Type}
theorem s_for {W : (List β → Prop) → Prop} {Body : β → Z → (Z → Prop) → Prop} {Rest : Z → Prop} {bd : List Stmt} (t : TgD β) (stf : Z → J → DSt) (z0 : Z) (j0 : J) (ok : YOk Y) (hi : ItC Y s tg iter W) (hg : TgOk Y tg (t.g Y.X.K) t.ws t.f) (h0 : s = stf z0 j0)
    (body : ∀ x z j (nx : Z → Prop), Body x z nx → Ws Y ⟨t.f x (stf z j).ρ, (stf z j).gs⟩ bd { D with nx := fun s' => ∃ z' j', s' = stf z' j' ∧ nx z', ct := fun s' => ∃ z' j', s' = stf z' j' ∧ nx z', bk := fun _ => False })
    (next : ∀ z j, Rest z → Ws Y (stf z j) sts D) (w : W fun items => forW items z0 Body Rest) (hs : ∀ x, foldedSetIterable iter Y.X.env x = pure x := by intro _; rfl) : Ws Y s (.For tg iter bd [] pos :: sts) D :=
  ws_cons (w1_forE ok (hi _ w) hg (fun items s' ⟨es, Iv, w0, w1, w2⟩ => ⟨fun i s2 => ∃ z j, s2 = stf z j ∧ Iv i z, ⟨z0, j0, by rw [es, h0], w0⟩, fun i x s2 hx ⟨z, j, e2, iv⟩ => by
    subst e2
    exact (body x z j _ (w1 i x z hx iv)).mono (fun s h => h) (fun A s h => h) (fun s h => h.elim) (fun s h => h), fun s2 ⟨z, j, e2, iv⟩ => by subst e2; exact next z j (w2 z iv)⟩) hs)
theorem s_while {Cond : Z → (Bool → Prop) → Prop} {Body : Z → (Z → Prop) → Prop} {Rest : Z → Prop} {bd : List Stmt} (stf : Z → J → DSt) (z0 : Z) (j0 : J) (ok : YOk Y) (h0 : s = stf z0 j0) (hc : ∀ z j, EvT Y (stf z j) c (Cond z))
    (body : ∀ z j (nx : Z → Prop), Body z nx → Ws Y (stf z j) bd { D with nx := fun s' => ∃ z' j', s' = stf z' j' ∧ nx z', ct := fun s' => ∃ z' j', s' = stf z' j' ∧ nx z', bk := fun _ => False })
    (next : ∀ z j, Rest z → Ws Y (stf z j) sts D) (w : whileW z0 Cond Body Rest) : Ws Y s (.While c bd [] pos :: sts) D := by
  obtain ⟨Iv, μ, w0, w1⟩ := w
  refine ws_cons fun F0 σ H F e0 S => ?_
  refine .of (ps_while ok.pass pt_wt pss_ws) ⟨fun m σ H => ∃ z j F2, Ext F0 F2 ∧ Sta Y (stf z j) σ H F2 ∧ Iv z ∧ m = μ z, ⟨_, z0, j0, F, e0, h0 ▸ S, w0, rfl⟩, ?_⟩
  rintro m σ2 H2 ⟨z, j, F2, e2, S2, iv, rfl⟩
  refine (hc z j _ (w1 z iv) F0 σ2 H2 F2 e2 S2).mono fun t H3 ⟨s3, F3, e3, S3, es, q⟩ => ?_
  subst es
  cases t with
  | false => exact ⟨_, F3, e3, S3, next z j (q.2 rfl)⟩
  | true => exact ⟨fun σ' H' => ∃ z4 j4 F4, Ext F0 F4 ∧ Sta Y (stf z4 j4) σ' H' F4 ∧ Iv z4 ∧ μ z4 < μ z, fun σ' H' ⟨z4, j4, F4, e4, S4, iv4, lt⟩ => ⟨_, lt, z4, j4, F4, e4, S4, iv4, rfl⟩, (body z j _ (q.1 rfl) F0 σ2 H3 F3 e3 S3).mono (fun σ' H' ⟨s5, F5, e5, S5, z', j', e6, iv5, lt⟩ => by subst e6; exact ⟨z', j', F5, e5, S5, iv5, lt⟩) (fun v H' q => q) (fun σ' H' ⟨s5, F5, e5, S5, q⟩ => q.elim) (fun σ' H' ⟨s5, F5, e5, S5, z', j', e6, iv5, lt⟩ => by subst e6; exact ⟨z', j', F5, e5, S5, iv5, lt⟩)⟩
end
section
variable {α : Type} [Enc α] {W : (α → Prop) → Prop} {xs : List α} {q : Addr}
end
section
variable {W : (Int → Prop) → Prop} {R : Int → Prop} {n : Int}
end
theorem s_augS {W : (List Nat → Prop) → Prop} {R : List Nat → Prop} {n : List Nat} (i : Nat) (ok : YOk Y) (hi : Y.X.N[i]? = some x) (hA : s.ρ[i]? = some (some (pu n))) (he : EvC Y s e W) (next : ∀ v, R v → Ws Y ⟨s.ρ.set i (some (pu v)), s.gs⟩ sts D) (w : W fun m => n.length + m.length ≤ sizeLine ∧ R (n ++ m)) (hx : Loc Y.X.env.scope x := by first | exact .inl rfl | exact .inr rfl) (hf : Y.X.fn x = true ∨ Y.X.env.scope.names.lookup x = some .local := by first | exact .inl rfl | exact .inr rfl) : Ws Y s (.AugAssign (.Name x p2) .Add e pos :: sts) D :=
  ws_cons (w1_addS i ok hi hx hA hf (he.q w fun m r => ⟨m, rfl, r.1, next _ r.2⟩))
theorem s_raise {C : Addr} {m : Str} {j : Nat} {p3 : Pos} {G0 : Gs → Prop} {E : Ex → Prop} (n : Nat) (ex : Ex) (ye : YE Y G0 E) (T : ErrC Y.X.K Y.X.mg x C) (hg : Gl Y.X x) (hx : exK Y.X.K ex = ⟨C, none⟩) (hn : G0 (s.gs.drop n)) (w : E ex) (hdb : (x == ("__debug__" : Str)) = false := by decide) : Ws Y s (.Raise (some (.Call (.Name x p) [.Constant (.str m) j p2] [] p3)) none pos :: sts) D :=
  ws_cons (w1_raise ye.ok T hg (hx ▸ ye.ex ex s ⟨n, hn⟩ w) hdb)
theorem s_fld {C : Addr} {fs : Flds} {q : Addr} {f : Str} {W : (α → Prop) → Prop} {R : α → Prop} {pn : Pos} (i g : Nat) (c : Cls Y.X.K C) (nn : NoAttr Y.X.K C f) (hN : Y.X.N[i]? = some x) (hρ : s.ρ[i]? = some (some (raw (.ref q)))) (hg : s.gs[g]? = some (q, insc C fs)) (he : EvC Y s e W) (next : ∀ v, R v → Ws Y ⟨s.ρ, s.gs.set g (q, insc C (fput f (pu v) fs))⟩ sts D) (w : W R) (hl : fs.length < 1000 := by decide)
    (hv : Vis Y.X.env.scope x := by first | exact .inl rfl | exact .inr (.inl rfl) | exact .inr (.inr rfl)) (hd : (x == ("__debug__" : Str)) = false := by decide) (hcd : (x == ("__classdict__" : Str)) = false := by decide) (hs : swapsWith e (some (.Attribute (.Name x pn) f p2)) pos.line Y.X.env = pure false := by rfl) : Ws Y s (.Assign [.Attribute (.Name x pn) f p2] e pos :: sts) D :=
  ws_cons (w1_fld g c nn hl (he.q w fun v r => ⟨hg, evp_v i hN hρ hv hd hcd, next v r⟩) hs)
theorem c_fldO {C : Addr} {fs : Flds} {q : Addr} {f : Str} {v : α} {pn : Pos} (i g : Nat) (c : Cls Y.X.K C) (nn : NoAttr Y.X.K C f) (hN : Y.X.N[i]? = some x) (hρ : s.ρ[i]? = some (some (raw (.ref q)))) (hg : s.gs[g]? = some (q, insc C fs)) (l : fs.lookup f = some (pu v)) (hb : attributeBase (.Name x pn) f Y.X.env (eval (.Name x pn) Y.X.env) = eval (.Name x pn) Y.X.env := by exact ab_ok rfl)
    (hv : Vis Y.X.env.scope x := by first | exact .inl rfl | exact .inr (.inl rfl) | exact .inr (.inr rfl)) (hd : (x == ("__debug__" : Str)) = false := by decide) (hcd : (x == ("__classdict__" : Str)) = false := by decide) : EvC Y s (.Attribute (.Name x pn) f pos) fun k => k v :=
  c_of (evp_fld c nn (evp_v i hN hρ hv hd hcd) (IA.own g hg) l hb)
theorem s_expr {W : (α → Prop) → Prop} {R : α → Prop} (he : EvC Y s e W) (next : ∀ v, R v → Ws Y s sts D) (w : W R) (hs : swapsWith e none pos.line Y.X.env = pure false := by rfl) : Ws Y s (.Expr e pos :: sts) D :=
  ws_cons (w1_expr (he.q w fun v r => next v r) hs)
end
end Sp
set_option maxHeartbeats 4000000
namespace Sp
open PySem L2
open PySem.W (Datum DatumOrd SomeDatum)
structure BZ where
  cdv : Value
  A : Around
  outer : List Env
  s : Shared
  H : Hp
  F : Hp
  E : XK
  ex : Exc → DSt → Prop
section
variable {P : Program} {w : World} {K : Frag} {mg : Str → Option Value} {base : Heap} {fa : List He.Fa} {fn : List He.DefD} {tq : TQ}
abbrev yB (P : Program) (w : World) (K : Frag) (mg : Str → Option Value) (base : Heap) (tq : TQ) (k : Nat) (N : List Str) (d : He.DefD) (gs : Gs) (z : BZ) : DX :=
  bodyY P w K mg base (tbOf K tq) k N d.qual d.scope (He.fAd K d.at_) z.cdv z.A z.outer z.s z.H z.F gs z.E z.ex
def retE {ρ : Type} [Enc ρ] (G : Gs → Prop) (r0 : Option ρ) (Q : ρ → Prop) : DE :=
  { nx := fun s' => (∃ n, G (s'.gs.drop n)) ∧ ∃ r, r0 = some r ∧ Q r, rt := fun A s' => (∃ n, G (s'.gs.drop n)) ∧ ∃ r, A = pu r ∧ Q r }
def NoneIs {ρ : Type} [Enc ρ] (r0 : Option ρ) : Prop := ∀ r, r0 = some r → ∀ K F v, (pu ()).rep K F v → (pu r).rep K F v
theorem noneNo {ρ : Type} [Enc ρ] : NoneIs (none : Option ρ) := fun r h => by cases h
theorem noneUnit : NoneIs (some ()) := fun r h K F v q => by cases r; exact q
theorem toSp_imp {T : Tb} {n : Nat} {d d' : DSp} {vs : List V} {H : Hp} {Q : VK} {E : XK} (h : toSp K T n d vs H Q E) (k : ∀ As gs R X, d As gs R X → d' As gs R X) : toSp K T n d' vs H Q E := by
  obtain ⟨h1, As, gs, F, r, G, q⟩ := h
  exact ⟨h1, As, gs, F, r, G, k _ _ _ _ q⟩
def DAs (K : Frag) (d : DSp) : DSp := fun As gs R E => d As gs (fun A gs' => ∃ B : Pv, (∀ F v, A.rep K F v → B.rep K F v) ∧ R B gs') E
theorem fnOk_as {T : Tb} {k n : Nat} {f : Addr} {fd : FuncData} {ps : List Str} {d : DSp} (m : DMono d) (h : FnOk P w K mg base (L2.CX P w) k f fd ps (toSp K T n d)) : FnOk P w K mg base (L2.CX P w) k f fd ps (toSp K T n (DAs K d)) :=
  h.imp fun vs H Q E ⟨h1, As, gs, F, r, G, q⟩ => ⟨h1, As, gs, F, r, G, m _ _ _ _ _ _ (fun A gs' ⟨B, hb, q⟩ v H' F' r' G' st => q v H' F' (hb _ _ r') G' st) (fun e gs' q => q) q⟩
section
variable {τ ρ : Type} [Ags τ] [Enc ρ]
theorem fn_F {k : Nat} {N ps : List Str} {d : He.DefD} {fd : FuncData} (r0 : Option ρ) (L : LK w K mg base fa fn tq) (F1 : Fd K d ps fd) (S : FnScope N ps d.scope) (W : τ → (ρ → Prop) → (Ex → Prop) → Prop) (n0 : NoneIs r0) (hl : ∀ t : τ, (Ags.pvs t).length = ps.length)
    (body : ∀ (z : BZ) (t : τ) (Q : ρ → Prop) (E : Ex → Prop), W t Q E → YE (yB P w K mg base tq k N d [] z) (fun gs => gs = []) E → (∀ q, (d.at_, q) ∈ tq → Tbl (yB P w K mg base tq k N d [] z).X (tbOf K tq) q) →
      Ws (yB P w K mg base tq k N d [] z) ⟨(Ags.pvs t).map some ++ List.replicate (N.length - ps.length) none, []⟩ d.body (retE (fun gs => gs = []) r0 Q)) :
    FnOk P w K mg base (L2.CX P w) (k + 1) (He.fAd K d.at_) fd ps (toSp K (tbOf K tq) ps.length (spF K W)) := by
  have h := fnOk_as (d := fun As gs R E => ∃ t, As = Ags.pvs t ∧ gs = [] ∧ ∃ R0 E0, W t R0 E0 ∧ (∀ r, R0 r → R (pu r) []) ∧ (∀ r, r0 = some r → R0 r → R (pu ()) []) ∧ ∀ e, E0 e → E (exK K e) [])
    (fun As gs R R' E E' h1 h2 ⟨t, e1, e2, R0, E0, hw, hr, hr', he⟩ => ⟨t, e1, e2, R0, E0, hw, fun r q => h1 _ _ (hr r q), fun r e q => h1 _ _ (hr' r e q), fun e q => h2 _ _ (he e q)⟩)
    (df_ok L F1 S _ (fun As gs R E ⟨t, e1, _⟩ => by rw [e1]; exact hl t) fun cdv A outer s H F gs E ex As R X hd hex tbl ok => by
      obtain ⟨t, rfl, rfl, R0, E0, hw, hr, hr', hE⟩ := hd
      refine (body ⟨cdv, A, outer, s, H, F, E, ex⟩ t R0 E0 hw ⟨ok, fun e s' ⟨n, hn⟩ he => hex _ _ ⟨n, by rw [hn]; exact hE e he⟩⟩ tbl).mono (fun s' ⟨⟨n, hn⟩, r, e, q⟩ => ⟨n, by rw [hn]; exact hr' r e q⟩) (fun A s' ⟨⟨n, hn⟩, r, e, q⟩ => ⟨n, by rw [hn, e]; exact hr r q⟩) (fun _ h => h) (fun _ h => h))
  exact h.imp fun vs H Q E q => toSp_imp q fun As gs R X ⟨t, e1, e2, R0, E0, hw, hr, he⟩ => ⟨t, e1, e2, R0, E0, hw, fun r q => ⟨_, fun _ _ h => h, hr r q⟩, fun r e q => ⟨_, n0 r e K, hr r q⟩, he⟩
theorem fn_D {k : Nat} {N ps : List Str} {d : He.DefD} {fd : FuncData} (r0 : Option ρ) (L : LK w K mg base fa fn tq) (F1 : Fd K d ps fd) (S : FnScope N ps d.scope) (W : τ → (ρ → Prop) → (Ex → Prop) → Prop) (n0 : NoneIs r0) (hl : ∀ t : τ, (Ags.pvs t).length + 1 = ps.length)
    (body : ∀ (q : Addr) (z : BZ) (t : τ) (Q : ρ → Prop), W t Q NoE → YE (yB P w K mg base tq k N d [(q, dicec)] z) (fun gs => gs = [(q, dicec)]) NoE → (∀ q', (d.at_, q') ∈ tq → Tbl (yB P w K mg base tq k N d [(q, dicec)] z).X (tbOf K tq) q') →
      Ws (yB P w K mg base tq k N d [(q, dicec)] z) ⟨(raw (.ref q) :: Ags.pvs t).map some ++ List.replicate (N.length - ps.length) none, [(q, dicec)]⟩ d.body (retE (fun gs => gs = [(q, dicec)]) r0 Q)) :
    FnOk P w K mg base (L2.CX P w) (k + 1) (He.fAd K d.at_) fd ps (toSp K (tbOf K tq) ps.length (spD W)) := by
  have h := fnOk_as (d := fun As gs R E => ∃ q t, As = raw (.ref q) :: Ags.pvs t ∧ gs = [(q, dicec)] ∧ ∃ R0, W t R0 NoE ∧ (∀ r, R0 r → R (pu r) [(q, dicec)]) ∧ (∀ r, r0 = some r → R0 r → R (pu ()) [(q, dicec)]))
    (fun As gs R R' E E' h1 h2 ⟨q, t, e1, e2, R0, hw, hr, hr'⟩ => ⟨q, t, e1, e2, R0, hw, fun r q => h1 _ _ (hr r q), fun r e q => h1 _ _ (hr' r e q)⟩)
    (df_ok L F1 S _ (fun As gs R E ⟨q, t, e1, _⟩ => by rw [e1]; exact hl t) fun cdv A outer s H F gs E ex As R X hd hex tbl ok => by
      obtain ⟨q, t, rfl, rfl, R0, hw, hr, hr'⟩ := hd
      refine (body q ⟨cdv, A, outer, s, H, F, E, ex⟩ t R0 hw ⟨ok, fun e s' _ he => he.elim⟩ tbl).mono (fun s' ⟨⟨n, hn⟩, r, e, q⟩ => ⟨n, by rw [hn]; exact hr' r e q⟩) (fun A s' ⟨⟨n, hn⟩, r, e, q⟩ => ⟨n, by rw [hn, e]; exact hr r q⟩) (fun _ h => h) (fun _ h => h))
  exact h.imp fun vs H Q E q => toSp_imp q fun As gs R X ⟨q, t, e1, e2, R0, hw, hr⟩ => ⟨q, t, e1, e2, R0, hw, fun r q => ⟨_, fun _ _ h => h, hr r q⟩, fun r e q => ⟨_, n0 r e K, hr r q⟩⟩
def retI (K : Frag) {ρ : Type} [o : Ob ρ] (q : Addr) (Q : ρ → Prop) : DE :=
  { nx := fun s' => ∃ r, (∃ n, s'.gs.drop n = [(q, insc (He.ga K o.cls) (o.flds r))]) ∧ Q r, rt := fun A s' => A = pu () ∧ ∃ r, (∃ n, s'.gs.drop n = [(q, insc (He.ga K o.cls) (o.flds r))]) ∧ Q r }
theorem fn_I {γ : Type} [og : Ob γ] {k : Nat} {N ps : List Str} {d : He.DefD} {fd : FuncData} (L : LK w K mg base fa fn tq) (F1 : Fd K d ps fd) (S : FnScope N ps d.scope) (W : τ → (γ → Prop) → (Ex → Prop) → Prop) (hl : ∀ t : τ, (Ags.pvs t).length + 1 = ps.length)
    (body : ∀ (q : Addr) (z : BZ) (t : τ) (Q : γ → Prop) (E : Ex → Prop), W t Q E → YE (yB P w K mg base tq k N d [(q, insc (He.ga K (Ob.cls γ)) [])] z) (fun gs => ∃ fs, gs = [(q, insc (He.ga K (Ob.cls γ)) fs)]) E → (∀ q', (d.at_, q') ∈ tq → Tbl (yB P w K mg base tq k N d [(q, insc (He.ga K (Ob.cls γ)) [])] z).X (tbOf K tq) q') →
      Ws (yB P w K mg base tq k N d [(q, insc (He.ga K (Ob.cls γ)) [])] z) ⟨(raw (.ref q) :: Ags.pvs t).map some ++ List.replicate (N.length - ps.length) none, [(q, insc (He.ga K (Ob.cls γ)) [])]⟩ d.body (retI K q Q)) :
    FnOk P w K mg base (L2.CX P w) (k + 1) (He.fAd K d.at_) fd ps (toSp K (tbOf K tq) ps.length (spI K W)) :=
  df_ok L F1 S _ (fun As gs R E ⟨q, t, e1, _⟩ => by rw [e1]; exact hl t) fun cdv A outer s H F gs E ex As R X hd hex tbl ok => by
    obtain ⟨q, t, rfl, rfl, R0, E0, hw, hr, hE⟩ := hd
    refine (body q ⟨cdv, A, outer, s, H, F, E, ex⟩ t R0 E0 hw ⟨ok, fun e s' ⟨n, fs, hn⟩ he => hex _ _ ⟨n, by rw [hn]; exact hE e he fs⟩⟩ tbl).mono (fun s' ⟨r, ⟨n, hn⟩, q⟩ => ⟨n, by rw [hn]; exact hr r q⟩) (fun A s' ⟨ea, r, ⟨n, hn⟩, q⟩ => ⟨n, by rw [hn, ea]; exact hr r q⟩) (fun _ h => h) (fun _ h => h)
end
theorem dice_open {T : Tb} {q : Addr} {H F : Hp} (G : Stg K T [(q, dicec)] H F) : ∃ i j k : Int, Stg K T [(q, lstc [i, j, k])] H F := by
  obtain ⟨h1, o, h2, h3, i, j, k, h4⟩ := G.own (q, dicec) List.mem_cons_self
  refine ⟨i, j, k, G.ext, G.ntb, fun p hp => ?_, G.nd, G.tb⟩
  rw [List.mem_singleton.mp hp]
  exact ⟨h1, o, h2, h3, _, h4, .cons rfl (.cons rfl (.cons rfl .nil))⟩
theorem dice_close {T : Tb} {q : Addr} {H F : Hp} {i j k : Int} (G : Stg K T [(q, lstc [i, j, k])] H F) : Stg K T [(q, dicec)] H F := by
  obtain ⟨h1, o, h2, h3, vs, h4, h5⟩ := G.own (q, lstc [i, j, k]) List.mem_cons_self
  refine ⟨G.ext, G.ntb, fun p hp => ?_, G.nd, G.tb⟩
  rw [List.mem_singleton.mp hp]
  refine ⟨h1, o, h2, h3, i, j, k, ?_⟩
  rw [h4, vs_ints h5]
  rfl
def rollW (t : Int × Unit) (Q : Int → Prop) (_ : Ex → Prop) : Prop := 0 < t.1 ∧ t.1 < 1073741824 ∧ ∀ r : Int, 0 ≤ r → r < t.1 → Q r
def dRollA : DSp := fun As gs R E => ∃ (q : Addr) (i j k many : Int), As = [raw (.ref q), pu many] ∧ gs = [(q, lstc [i, j, k])] ∧ 0 < many ∧ many < 1073741824 ∧ ∀ r i' j' k' : Int, 0 ≤ r → r < many → R (pu r) [(q, lstc [i', j', k'])]
theorem roll_D {k n : Nat} {f : Addr} {fd : FuncData} {ps : List Str} {T : Tb} (h : FnOk P w K mg base (L2.CX P w) k f fd ps (toSp K T n dRollA)) : FnOk P w K mg base (L2.CX P w) k f fd ps (toSp K T n (spD rollW)) :=
  h.imp fun vs H Q E ⟨h1, As, gs, F, r, G, q, t, e1, e2, R0, ⟨hw1, hw2, hw3⟩, hr⟩ => by
    subst e1 e2
    obtain ⟨i, j, k, G'⟩ := dice_open G
    exact ⟨h1, _, _, F, r, G', q, i, j, k, t.1, rfl, rfl, hw1, hw2, fun r i' j' k' l1 l2 v H' F' rr G2 st => hr r (hw3 r l1 l2) v H' F' rr (dice_close G2) st⟩
def dDiceA : DSp := fun As gs R E => ∃ c : Int, As = [pu c] ∧ gs = [] ∧ ∀ q : Addr, R (raw (.ref q)) [(q, dicec)]
def dDice0 : DSp := fun As gs R E => ∃ c : Int, As = [pu c] ∧ gs = [] ∧ ∀ (i j k : Int) (q : Addr), R (raw (.ref q)) [(q, lstc [i, j, k])]
theorem dice_D {k n : Nat} {f : Addr} {fd : FuncData} {ps : List Str} {T : Tb} (h : FnOk P w K mg base (L2.CX P w) k f fd ps (toSp K T n dDice0)) : FnOk P w K mg base (L2.CX P w) k f fd ps (toSp K T n dDiceA) :=
  h.imp fun vs H Q E ⟨h1, As, gs, F, r, G, c, e1, e2, hr⟩ => ⟨h1, _, _, F, r, G, c, e1, e2, fun i j k q v H' F' rr G2 st => hr q v H' F' rr (dice_close G2) st⟩
theorem mDiceA : DMono dDiceA := fun As gs R R' E E' h1 h2 ⟨c, e, e2, k⟩ => ⟨c, e, e2, fun q => h1 _ _ (k q)⟩
def dRoundsA : DSp := fun As gs R E => ∃ ns : List Int, As = [pu ns, pu (1 : Int)] ∧ gs = [] ∧ ∀ q : Addr, R (pu [Rf.mk q]) [(q, dicec)]
theorem mRoundsA : DMono dRoundsA := fun As gs R R' E E' h1 h2 ⟨c, e, e2, k⟩ => ⟨c, e, e2, fun q => h1 _ _ (k q)⟩
end
end Sp
set_option maxHeartbeats 4000000
namespace Sp
open PySem L2
open PySem.W (Datum DatumOrd SomeDatum)
section
variable {Y : DX} {s : DSt} {e a b c o tg iter elt : Expr} {es ifs : List Expr} {pos p p2 apos : Pos} {α β γ : Type} [Enc α] [Enc β] [Enc γ] {D : DE} {sts : List Stmt} {x y : Str}
theorem c_gs {z : Str} (hg : Gl Y.X x) (hm : ∃ t, Y.X.mg x = some (.str z t)) (hd : (x == ("__debug__" : Str)) = false := by decide) : EvC Y s (.Name x pos) fun k => k (tx z) := by
  obtain ⟨t, hm⟩ := hm
  exact c_of (evp_glob (v := .str z) hg hm ⟨t, rfl⟩ (fun F => by show V.str z = V.str (toStr (tx z)); rw [toStr_tx]) hd)
section
variable {o1 o2 : CmpOp} {r1 r2 : Int → Int → Bool} {Wa Wb Wc : (Int → Prop) → Prop}
theorem t_chain (h1 : OpR Y.X (compareOp o1) (fun x y H Q => ∃ i j, x = .int i ∧ y = .int j ∧ Q (.bl (r1 i j)) H)) (h2 : OpR Y.X (compareOp o2) (fun x y H Q => ∃ i j, x = .int i ∧ y = .int j ∧ Q (.bl (r2 i j)) H)) (ha : EvC Y s a Wa) (hb : EvC Y s b Wb) {v : Int} (hc : EvC Y s c Wc) (hm : lastMarks [o1, o2] [b, c] = false := by with_unfolding_all rfl) :
    EvT Y s (.Compare a [o1, o2] [b, c] pos) fun k => Wa fun i => Wb fun j => (r1 i j = true → Wc fun z => z = v) ∧ k (r1 i j && r2 j v) := fun k w F0 σ H F e0 S => by
  refine .of (pt_chain h1 h2 pe_we pe_we pe_we hm) ?_
  refine (ha _ w F0 σ H F e0 S).mono fun v H1 ⟨_, _, F1, e1, r1', S1, i, ei, es, w⟩ => ?_
  subst ei es
  refine (hb _ w F1 σ H1 F1 (.refl _) S1).mono fun u H2 ⟨_, _, F2, e2, r2', S2, j, ej, es, w⟩ => ?_
  subst ej es
  refine ⟨i, j, r1', r2', r1 i j, rfl, ?_⟩
  cases hr : r1 i j with
  | true =>
    rw [if_pos rfl]
    refine (hc _ (w.1 hr) F2 σ H2 F2 (.refl _) S2).mono fun z H3 ⟨_, _, F3, e3, r3, S3, m, em, es, ez⟩ => ?_
    subst em es ez
    refine ⟨j, m, r2', r3, r2 j m, rfl, _, F3, (e1.trans e2).trans e3, S3, rfl, ?_⟩
    have := w.2
    rw [hr] at this
    simpa using this
  | false =>
    rw [if_neg Bool.false_ne_true]
    refine ⟨false, rfl, _, F2, e1.trans e2, S2, rfl, ?_⟩
    have := w.2
    rw [hr] at this
    simpa using this
end
theorem s_ifJ {Z J : Type} {A1 A2 : List Stmt} {Rest : Z → Prop} {B C : (Z → Prop) → Prop} {Wc : (Bool → Prop) → Prop} (stf : Z → J → DSt) (hc : EvT Y s c Wc) (h1 : ∀ nx : Z → Prop, B nx → Ws Y s A1 { D with nx := fun s' => ∃ z j, s' = stf z j ∧ nx z }) (h2 : ∀ nx : Z → Prop, C nx → Ws Y s A2 { D with nx := fun s' => ∃ z j, s' = stf z j ∧ nx z })
    (next : ∀ z j, Rest z → Ws Y (stf z j) sts D) (w : Wc fun t => (t = true → B Rest) ∧ (t = false → C Rest)) : Ws Y s (.If c A1 A2 pos :: sts) D :=
  ws_cons (w1_if (hc.q w fun t r => by
    cases t with
    | true => rw [if_pos rfl]; exact (h1 _ (r.1 rfl)).mono (fun s' ⟨z, j, e, q⟩ => by subst e; exact next z j q) (fun _ _ h => h) (fun _ h => h) (fun _ h => h)
    | false => rw [if_neg Bool.false_ne_true]; exact (h2 _ (r.2 rfl)).mono (fun s' ⟨z, j, e, q⟩ => by subst e; exact next z j q) (fun _ _ h => h) (fun _ h => h) (fun _ h => h)))
theorem s_rounds {j : Nat} {ns : List Int} {ps : List Str} {bd : List Stmt} {py pp pc : Pos} {k1 : Nat} {R : Prop} (i i0 : Nat) (ok : YOk Y) (G : Df Y.X.prog Y.X.w Y.X.K Y.X.mg Y.X.base Y.T j "_law_rounds" ps dRoundsA) (hj : j ≤ Y.k) (hl : ps.length = 2) (hg : Gl Y.X "_law_rounds") (h0 : s.gs = []) (hx : TgOk Y tg (gName i) [i] (fun (v : Rf) ρ => ρ.set i (some (pu v)))) (ha : EvC Y s a fun k => k ns)
    (body : ∀ q, R → Ws Y ⟨s.ρ.set i (some (raw (.ref q))), [(q, dicec)]⟩ bd { D with nx := fun s' => Ws Y s' sts D, ct := fun s' => Ws Y s' sts D, bk := fun _ => False }) (w : R)
    (he : starEach [a, .Constant (.int 1) k1 pc] Y.X.env = (false, eval a Y.X.env) :: starEach [.Constant (.int 1) k1 pc] Y.X.env := by exact star_c rfl) (he2 : starEach [.Constant (.int 1) k1 pc] Y.X.env = (false, eval (.Constant (.int 1) k1 pc) Y.X.env) :: starEach [] Y.X.env := by exact star_c rfl) (hpl : (backTo pos (starEach [.Constant (.int 1) k1 pc] Y.X.env)).any (·.1) = false := by rfl) (hs : ∀ x, foldedSetIterable (.Call (.Name "_law_rounds" pp) [a, .Constant (.int 1) k1 pc] [] pos) Y.X.env x = pure x := by intro _; rfl) :
    Ws Y s (.For tg (.Call (.Name "_law_rounds" pp) [a, .Constant (.int 1) k1 pc] [] pos) bd [] py :: sts) D :=
  ws_cons (w1_forE ok (it_listE (α := Rf) (G := fun items s' => ∃ q, items = [Rf.mk q] ∧ s' = ⟨s.ρ, [(q, dicec)]⟩) (ev_call G ok hj hg (evs_cons (ha.q (k := fun v => v = ns) rfl fun v ev => evs_cons (.of evp_int (evs_nil (by
    subst ev
    refine ⟨hl.symm, [], s.gs, .refl _, _, rfl, rfl, fun q => ⟨[Rf.mk q], rfl, q, rfl, ?_⟩⟩
    rw [h0]
    rfl))) he2) he) (by decide) he hpl)) hx (fun items s' ⟨q, e1, e2⟩ => by
      subst e1 e2
      refine ⟨fun n s' => (n = 0 ∧ s' = ⟨s.ρ, [(q, dicec)]⟩) ∨ (n = 1 ∧ Ws Y s' sts D), .inl ⟨rfl, rfl⟩, fun i x s2 hx h => ?_, fun s2 h => ?_⟩
      · rcases h with ⟨rfl, rfl⟩ | ⟨rfl, _⟩
        · cases hx
          exact (body q w).mono (fun s' h => .inr ⟨rfl, h⟩) (fun _ _ h => h) (fun _ h => h.elim) (fun s' h => .inr ⟨rfl, h⟩)
        · cases hx
      · rcases h with ⟨h, _⟩ | ⟨_, h⟩
        · cases h
        · exact h) hs)
end
end Sp
set_option maxHeartbeats 4000000
namespace Sp
open PySem L2
open PySem.W (Datum DatumOrd SomeDatum)
def ifJ {Z : Type} (b : Bool) (B C : (Z → Prop) → Prop) (rest : Z → Prop) : Prop := (b = true → B rest) ∧ (b = false → C rest)
abbrev TgD.t {α β γ : Type} (a : TgD α) (b : TgD β) (c : TgD γ) : TgD (T3 α β γ) := ⟨fun K => gTup K 3 (gCons (a.g K) (gCons (b.g K) (gCons (c.g K) gNil))), a.ws ++ (b.ws ++ c.ws), fun v ρ => c.f v.c (b.f v.b (a.f v.a ρ))⟩
def optG {α : Type} [Inhabited α] (x : Option α) : α := x.getD default
section
variable {Y : DX} {s : DSt} {e a b c o tg iter elt body : Expr} {es ifs : List Expr} {pos p apos cpos lpos gpos : Pos} {α β : Type} [Enc α] [Enc β] {G0 : Gs → Prop} {E : Ex → Prop} {k : Nat} {scope : Scope}
theorem c_optG [Inhabited α] {W : (Option α → Prop) → Prop} (h : EvC Y s e W) : EvC Y s e fun k => W fun x => x.isSome = true ∧ k (optG x) := fun k w => (h _ w).mono fun A s' ⟨x, ea, es, w1, w2⟩ => by
  cases x with
  | some x => exact ⟨x, by rw [ea]; rfl, es, w2⟩
  | none => cases w1
section
variable {W : (List β → Prop) → Prop}
theorem c_any0 {We : β → (Bool → Prop) → Prop} (t : TgD β) (k : Nat) (vs : List Nat) (items : List β) (h : β → Bool) (ok : YOk Y) (B : Bis Y.X.mg) (hg : Gl Y.X "any") (hk : k + 2 ≤ Y.k) (hi : ItC Y s tg iter W) (G : GenOk Y.X.N Y.X.env.scope scope vs) (tb : TbG Y.X Y.T (Y.X.env.qual ++ "<genexpr>") gpos noOw) (tg0 : ∀ z, TgOk (genY Y k scope z) tg (t.g Y.X.K) t.ws t.f)
    (he : ∀ z, YOk (genY Y k scope z) → ∀ x, EvC (genY Y k scope z) ⟨t.f x (wipeR s.ρ vs), s.gs⟩ elt (We x)) (sub : ∀ j ∈ t.ws, j ∈ vs := by decide) (hs : ∀ x, genFold iter Y.X.env x = pure x := by intro _; rfl)
    (hst : starEach [.GeneratorExp elt [⟨tg, iter, [], 0⟩] scope gpos] Y.X.env = (false, eval (.GeneratorExp elt [⟨tg, iter, [], 0⟩] scope gpos) Y.X.env) :: starEach [] Y.X.env := by exact star_c rfl) :
    EvC Y s (.Call (.Name "any" p) [.GeneratorExp elt [⟨tg, iter, [], 0⟩] scope gpos] [] pos) fun kk => (W fun is => is = items) ∧ (∀ x ∈ items, We x fun y => y = h x) ∧ kk (items.any h) := fun kk ⟨w1, w3, w4⟩ =>
  (c_any (Wc := fun _ k => k true) t k vs items (fun _ => true) h ok B hg hk hi G tb tg0 (fun _ _ _ => ts_nil) he sub hs hst) kk ⟨w1, fun _ _ => rfl, fun x hx _ => w3 x hx, by rw [List.filter_eq_self.mpr (fun _ _ => rfl)]; exact w4⟩
theorem c_sumG0 {We : β → (Int → Prop) → Prop} (t : TgD β) (k : Nat) (vs : List Nat) (items : List β) (h : β → Int) (ok : YOk Y) (B : Bis Y.X.mg) (hg : Gl Y.X "sum") (hk : k + 2 ≤ Y.k) (hi : ItC Y s tg iter W) (G : GenOk Y.X.N Y.X.env.scope scope vs) (tb : TbG Y.X Y.T (Y.X.env.qual ++ "<genexpr>") gpos noOw) (tg0 : ∀ z, TgOk (genY Y k scope z) tg (t.g Y.X.K) t.ws t.f)
    (he : ∀ z, YOk (genY Y k scope z) → ∀ x, EvC (genY Y k scope z) ⟨t.f x (wipeR s.ρ vs), s.gs⟩ elt (We x)) (sub : ∀ j ∈ t.ws, j ∈ vs := by decide) (hs : ∀ x, genFold iter Y.X.env x = pure x := by intro _; rfl)
    (hst : starEach [.GeneratorExp elt [⟨tg, iter, [], 0⟩] scope gpos] Y.X.env = (false, eval (.GeneratorExp elt [⟨tg, iter, [], 0⟩] scope gpos) Y.X.env) :: starEach [] Y.X.env := by exact star_c rfl) :
    EvC Y s (.Call (.Name "sum" p) [.GeneratorExp elt [⟨tg, iter, [], 0⟩] scope gpos] [] pos) fun kk => (W fun is => is = items) ∧ (∀ x ∈ items, We x fun y => y = h x) ∧ SumOk (items.map h) ∧ kk (items.map h).sum := fun kk ⟨w1, w3, w5, w4⟩ =>
  (c_sumG (Wc := fun _ k => k true) t k vs items (fun _ => true) h ok B hg hk hi G tb tg0 (fun _ _ _ => ts_nil) he sub hs hst) kk ⟨w1, fun _ _ => rfl, fun x hx _ => w3 x hx, by rw [List.filter_eq_self.mpr (fun _ _ => rfl)]; exact ⟨w5, w4⟩⟩
end
end
end Sp
set_option maxHeartbeats 4000000
namespace Sp
open PySem L2
open PySem.W (Datum DatumOrd SomeDatum)
section
variable {Y : DX} {s : DSt} {e a b c d o : Expr} {es : List Expr} {pos p apos cpos : Pos}
section
variable {κ ν : Type} [DecidableEq κ] [Kk κ] [Enc κ] [KkV κ] [Enc ν]
def tSumValsF (td : TE) : TE := fun σ H Q => td σ H fun x H1 => ∃ a kvs, ∃ is : List Int, x = V.ref a ∧ Rd H1 a (.dK kvs) ∧ kvs.map (·.2) = is.map V.int ∧ Q (.int is.sum) H1
theorem pe_sumVals {X : Cx} {td : TE} (hc : X.calm = true) (hg : Gl X "sum") (hm : X.mg "sum" = none) (hd : PE X o td) (hbase : attributeBase o "values" X.env (eval o X.env) = eval o X.env := by exact ab_ok rfl) (hline : (apos.endLine == cpos.line) = true := by rfl)
    (hse : starEach [Expr.Call (.Attribute o "values" apos) [] [] cpos] X.env = [(false, eval (Expr.Call (.Attribute o "values" apos) [] [] cpos) X.env)] := by exact star_1 rfl) :
    PE X (.Call (.Name "sum" p) [.Call (.Attribute o "values" apos) [] [] cpos] [] pos) (tSumValsF td) := by
  refine ⟨fun pins s σ H Q I h => ?_⟩
  refine wpAny_Call_Name_kw (ld_blt I hg hm (u := .builtin "sum") (by first | rfl | decide +kernel) ?_ (by first | decide +kernel | decide) (by first | decide +kernel | decide))
  rw [hse]
  refine PySem.callWith_builtin1 (wpAny_Call_method0_late hbase hline (thn (hd.run pins s σ H _ I h) fun v s1 ⟨x, H1, I1, r1, a, kvs, is, ex, ha, hv, q⟩ => ?_))
  subst ex
  obtain rfl : v = Value.ref a := r1
  obtain ⟨hz, hsys, vs, rel, dof⟩ := dk_rd I1.hok ha
  obtain ⟨ep, dat⟩ := dof.dictAt
  have dat' := dat
  obtain ⟨ob, es, ho, ex, hdat, hko, hpr, hnd⟩ := dat'
  refine ⟨"dict", "dict.values", F.plainAttrs_dict, F.slot_dict_values, F.type_dict_values, ⟨ob, ho, ex.1⟩, fun b e => ?_, Calls.callWith_builtin rfl (PySem.evalArgs_none ?_)⟩
  · cases e
    exact ⟨ob, ho, ex.2.1⟩
  refine call_meetsIn F.slot_dict_values ⟨ob, ho, ex.1⟩ F.entry_dict_values (F.args_dict_values_1 _) (meets_dict_values (mixKind X.prog X.w) a hsys) ⟨⟨vs, dof⟩, ?_⟩
  have k1 : ∀ b u, s1.heap.get? b = some u → (s1.heap.push { cls := .type "dict_values", data := .fields #[.ref a] }).get? b = some u := fun b u e => Heap.get?_push_of_some _ e
  have dat1 : (s1.heap.push { cls := .type "dict_values", data := .fields #[.ref a] }).DictAt (mixKind X.prog X.w) a vs ep := dat.keep k1
  have hlv : vs.length = is.length := by
    have e1 := congrArg List.length hv
    rw [List.length_map, List.length_map] at e1
    rw [← e1]
    exact (KV.length rel).symm
  have hval : ∀ (i : Nat) (v : Value), (∃ k, vs[i]? = some (k, v)) → ∃ t, v = Value.int (is.getD i 0) t := fun i v ⟨k, hk⟩ => by
    obtain ⟨x, h1, h2⟩ := KV.at' rel hk
    have e1 : (kvs.map (·.2))[i]? = some x := by rw [List.getElem?_map, h1] <;> rfl
    rw [hv, List.getElem?_map] at e1
    obtain ⟨j, hj, e2⟩ := Option.map_eq_some_iff.mp e1
    subst e2
    obtain ⟨t, e3⟩ := h2
    refine ⟨t, ?_⟩
    rw [e3, List.getD_eq_getElem?_getD, hj] <;> rfl
  have hlt : a < s1.heap.objs.size := Heap.lt_size ho
  have hsz : (s1.heap.push { cls := .type "dict_values", data := .fields #[.ref a] }).objs.size = s1.heap.objs.size + 1 := Heap.size_push _ _
  refine call_sum_walkAnyS (wpAny_pyIter_values (v := s1.heap.objs.size) (d := a) ⟨_, Heap.get?_push_size _ rfl, rfl, rfl⟩ dat1 ?_)
  refine ⟨_, _, _, _, _, _, _, fun i => is.getD i 0, rfl, (Walks.dictValues (knd := mixKind X.prog X.w) (A := X.A.in1) (I.ok.hd hc) (s1.heap.push { cls := .type "dict_values", data := .fields #[.ref a] }).objs.size a (by rw [hsz]; exact Nat.ne_of_lt (Nat.lt_succ_of_lt hlt)) vs ep).toS,
    ⟨⟨_, Heap.get?_push_size _ rfl, rfl, rfl⟩, dat1.keep fun b u e => Heap.get?_push_of_some _ e⟩, fun b hb => ?_, hval, fun s' t' hm => ?_⟩
  · show b < ((s1.heap.push _).push _).objs.size
    rw [Heap.size_push, Heap.size_push]
    rw [hsz] at hb
    rcases List.mem_cons.mp hb with e | hb
    · rw [e]
      exact Nat.lt_succ_self _
    · have e : b = a := List.mem_singleton.mp hb
      rw [e]
      exact Nat.lt_succ_of_lt (Nat.lt_succ_of_lt hlt)
  · rw [Moved.eq_with hm]
    refine ⟨.int _, H1, I1.kept (t' := s'.toks) fun b u e => hm.heap b u (fun hmem => ?_) (Heap.get?_push_of_some _ (k1 b u e)), ⟨_, rfl⟩, ?_⟩
    · have e1 : b = (s1.heap.push { cls := .type "dict_values", data := .fields #[.ref a] }).objs.size := List.mem_singleton.mp hmem
      have e2 := Heap.lt_size e
      rw [hsz] at e1
      rw [e1] at e2
      exact absurd e2 (Nat.not_lt.mpr (Nat.le_succ _))
    · rw [PyProof.Rows.preSum_getD, List.take_of_length_le (by omega)]
      exact q
end
end
end Sp
namespace HN
open PySem PySem.Spec PyProof.Rows PySem.SeqAt
section
variable {M : Model} {prog : Program} {w : World} {A : Around} {E : Value → Shared → Prop} {s : Shared} {K : PySem.W.Frag} {x C dx : Addr} {ox : Obj} {od : Option Obj} {b : Str} {u : Tok}
theorem isSame_strI {R : Bool → Shared → Prop} (h : R false s) : wpAny M A (isSame (.ref x) (.str b u)) R E s := wpAny_of_eq (rfl : isSame (.ref x) (.str b u) = pure false) h
theorem entry_strI {Q : Fin → Shared → Prop} (hq : Q (.done (.ret .notImplemented)) s) : wpAny M A (Builtin.«object.__eq__» ⟨[.ref x, .str b u], []⟩) Q E s := by
  unfold Builtin.«object.__eq__»
  repeat (first | with_reducible refine isSame_strI ?_ | wp_step)
  exact hq
theorem call_objEqS {Q : Value → Shared → Prop} (X : K.In s.heap) (I : PySem.W.InstAt s.heap x ox C od) (hm : PySem.W.mroIn K C (.type "object") = some true) (hq : Q .notImplemented s) :
    wpAny (model prog w) A (call (.builtin "object.__eq__") [.ref x, .str b u]) Q E s :=
  wpAny_call (codeAny_call_builtin F.cmp_object.eq.plain F.cmpEntry_eq (PySem.W.check_slot F.cmpKind_eq F.cmpSplit_eq (I.type.andThen (PySem.W.looks_mroIn X hm)) (F.cmpArgs_eq _ _) (entry_strI hq)))
theorem entry_strN {Q : Fin → Shared → Prop} (hu : A.units < cLine) (X : K.In s.heap) (I : PySem.W.InstAt s.heap x ox C od) (hm : PySem.W.mroIn K C (.type "object") = some true) (hs : PySem.W.findIn K (.ref C) "__eq__" = some (some (.builtin "object.__eq__"))) (hq : Q (.done (.ret .notImplemented)) s) :
    wpAny (model prog w) A (Builtin.«object.__ne__» ⟨[.ref x, .str b u], []⟩) Q E s := by
  unfold Builtin.«object.__ne__»
  repeat (first | with_reducible refine wpAny_cRoomFor hu ?_ | with_reducible refine ifBound_objEq X I hs (call_objEqS X I hm ?_) | wp_step)
  exact hq
theorem call_objNeS {Q : Value → Shared → Prop} (hu : A.units + 1 < cLine) (X : K.In s.heap) (I : PySem.W.InstAt s.heap x ox C od) (hm : PySem.W.mroIn K C (.type "object") = some true) (hs : PySem.W.findIn K (.ref C) "__eq__" = some (some (.builtin "object.__eq__"))) (hq : Q .notImplemented s) :
    wpAny (model prog w) A (call (.builtin "object.__ne__") [.ref x, .str b u]) Q E s :=
  wpAny_call (codeAny_call_builtin F.cmp_object.ne.plain F.cmpEntry_ne (PySem.W.check_slot F.cmpKind_ne F.cmpSplit_ne (I.type.andThen (PySem.W.looks_mroIn X hm)) (F.cmpArgs_ne _ _) (entry_strN (A := A.in1) hu X I hm hs hq)))
theorem ifBound_objNe {args : List Value} {Q : Option Value → Shared → Prop} (X : K.In s.heap) (I : PySem.W.InstAt s.heap x ox C od) (hs : PySem.W.findIn K (.ref C) "__ne__" = some (some (.builtin "object.__ne__")))
    (h : wpAny M A (call (.builtin "object.__ne__") (.ref x :: args)) (fun v => Q (some v)) E s) : wpAny M A (callSpecialIfBound? (.ref x) "__ne__" args) Q E s := by
  simp only [callSpecialIfBound?, bindSpecialIfBound?]
  refine wpAny_holding (wpAny_bind (wpAny_bind (wpAny_bind (I.type.here ((PySem.W.looks_findIn X hs).here ?_)))))
  refine wpAny_bind (wpAny_askSetting (wpAny_ite ?_))
  have fin : wpAny M A (call (.builtin "object.__ne__") ([.ref x] ++ args) >>= fun v => pure (some v)) Q E s := wpAny_bind (wpAny_mono h (fun v s' h' => wpAny_pure h') fun _ _ h' => h')
  split
  · exact wpAny_bind (wpAny_of_eq (F.cmp_object.ne.bind _) (wpAny_pure (by exact fin)))
  · exact wpAny_tryCatch (wpAny_bind (wpAny_of_eq (F.cmp_object.ne.bind _) (wpAny_pure (by exact fin))))
theorem sub_strI : PySem.W.subIn K (.type "str") (.ref C) = some false := by
  have e : fastBuiltinMro "str" = some [.type "str", .type "object"] := by decide +kernel
  show (fastBuiltinMro "str").map (·.contains (.ref C)) = some false
  rw [e]
  first
    | rfl
    | simp
theorem str_ne_declines_inst (l : Addr) : Meets (Builtin.«str.__ne__» ⟨[.str b u, .ref l], []⟩) (fun _ R s => s.heap.get? l = some (PySem.W.instObj C dx) ∧ R (.ok (.ret .notImplemented)) s) :=
  .of_wp fun prog w A R s h => by obtain ⟨hp, g, d, tk, os⟩ := s; obtain ⟨hl, h⟩ := h; wp_walk using wpAny_loadPart' hl, wpAny_load hl; exact ⟨_, rfl, h⟩
end
end HN
set_option maxHeartbeats 4000000
namespace HN
open PySem PySem.Spec PyProof.Rows PySem.SeqAt
section
variable {M : Model} {prog : Program} {w : World} {A : Around} {E : Value → Shared → Prop} {s : Shared} {K : PySem.W.Frag} {x C dx : Addr} {od : Option Obj} {b : Str} {u : Tok}
def cmpK (K : PySem.W.Frag) (C : Addr) : Prop := PySem.W.mroIn K C (.type "object") = some true ∧ PySem.W.findIn K (.ref C) "__eq__" = some (some (.builtin "object.__eq__")) ∧ PySem.W.findIn K (.ref C) "__ne__" = some (some (.builtin "object.__ne__"))
def cmpB (K : PySem.W.Frag) (C : Addr) : Bool := (PySem.W.mroIn K C (.type "object") == some true) && (PySem.W.findIn K (.ref C) "__eq__" == some (some (.builtin "object.__eq__"))) && (PySem.W.findIn K (.ref C) "__ne__" == some (some (.builtin "object.__ne__")))
theorem cmpB_ok {K : PySem.W.Frag} {C : Addr} (h : cmpB K C = true) : cmpK K C := by
  unfold cmpB at h
  rw [Bool.and_eq_true, Bool.and_eq_true] at h
  exact ⟨eq_of_beq h.1.1, eq_of_beq h.1.2, eq_of_beq h.2⟩
theorem rc_strN (hu : A.units + 64 < cLine) (X : K.In s.heap) (I : PySem.W.InstAt s.heap x (PySem.W.instObj C dx) C od) (c : cmpK K C) {Q : Value → Shared → Prop} (h : Q (.bool true) s) :
    wpAny (model prog w) A (richCompare .NotEq (.ref x) (.str b u)) Q E s := by
  obtain ⟨hm, hs, hn⟩ := c
  have one : wpAny (model prog w) A (tryCompare (.ref x) "__ne__" (.str b u)) (fun r s' => r = none ∧ s' = s) E s := by
    unfold tryCompare
    exact wpAny_bind (ifBound_objNe X I hn (call_objNeS (by omega) X I hm hs (wpAny_pure ⟨rfl, rfl⟩)))
  have two : wpAny (model prog w) A (tryCompare (.str b u) "__ne__" (.ref x)) (fun r s' => r = none ∧ s' = s) E s :=
    wpAny_tryCompare_declines (typeIs_str s b u) F.slot_str_ne_refl (call_meets F.slot_str_ne_refl (typeIs_str s b u) F.entry_str_ne (F.args_str_ne_2 _ _) (str_ne_declines_inst (C := C) (dx := dx) x) ⟨I.at_, rfl, rfl, rfl⟩)
  simp only [richCompare, cmpInfo_NotEq, oneThing_ref]
  refine wpAny_holding (wpAny_bind (wpAny_cRoomFor (by omega) ?_))
  refine wpAny_bind (I.type.here ?_)
  refine wpAny_bind (wpAny_typeOf (typeIs_str s b u) ?_)
  split
  · refine wpAny_bind ((PySem.W.looks_subIn X sub_strI).here ?_)
    simp only [Bool.false_eq_true, if_false, Bool.not_false, if_true]
    refine wpAny_bind (m := tryCompare (.ref x) _ (.str b u)) (wpAny_mono one (fun r s1 z => ?_) fun _ _ e => e)
    obtain ⟨z1, z2⟩ := z
    subst z1
    subst z2
    refine wpAny_bind (m := tryCompare (.str b u) _ (.ref x)) (wpAny_mono two (fun r s2 z => ?_) fun _ _ e => e)
    obtain ⟨z1, z2⟩ := z
    subst z1
    subst z2
    exact wpAny_bind (wpAny_rule (wpAny_bind (wpAny_of_eq (rfl : isSame (.ref x) (.str b u) = pure false) (wpAny_pure h))))
  · rename_i q
    exact absurd (by simp) q
end
end HN
namespace Sp
open PySem L2
def isT {α : Type} : α ⊕ List Nat → List Nat → Bool
  | .inl _, _ => false
  | .inr z, y => decide (z = y)
section
variable {Y : DX} {s : DSt} {a b : Expr}
theorem cmp_strN {X : Cx} (hu : X.A.units + 64 < cLine) : OpR X (compareOp .NotEq) (fun x y H Q => ∃ p C dx fs, ∃ t : List Nat, x = .ref p ∧ H p = some (.ins C dx fs) ∧ HN.cmpK X.K C ∧ y = .str (toStr t) ∧ Q (.bl true) H) := by
  intro pins s σ H x y v u Q I rx ry ⟨p, C, dx, fs, t, ex, hp, hc, ey, q⟩
  subst ex ey
  cases rx
  obtain ⟨tk, rfl⟩ : ∃ tk, u = .str (toStr t) tk := ry
  obtain ⟨mA, O, _⟩ := ins_get I.hok hp
  obtain ⟨od, J, _⟩ := O.look
  show wpAny _ _ (richCompare .NotEq _ _) _ _ _
  refine HN.rc_strN hu I.kIn J hc ?_
  exact ⟨.bl _, H, I, rfl, q⟩
theorem opr_or {X : Cx} {op : Value → Value → Sem Value} {r1 r2 : R2} (h1 : OpR X op r1) (h2 : OpR X op r2) : OpR X op (fun x y H Q => r1 x y H Q ∨ r2 x y H Q) := by
  intro pins s σ H x y v u Q I rx ry h
  rcases h with h | h
  · exact h1 pins s σ H x y v u Q I rx ry h
  · exact h2 pins s σ H x y v u Q I rx ry h
section
variable {γ : Type} [og : Ob γ] [eg : Enc γ] [ObOk γ] {Wa : (γ ⊕ List Nat → Prop) → Prop} {Wb : (List Nat → Prop) → Prop}
theorem k_neT (ok : YOk Y) (hc : HN.cmpK Y.X.K (He.ga Y.X.K (Ob.cls γ))) (ha : EvC Y s a Wa) (hb : EvC Y s b Wb) : EvK Y s .NotEq a b fun k => Wa fun x => Wb fun y => k (!isT x y) := fun k w =>
  cmp_of (opr_or (cmp_strN ok.room.units) (op_neT (α := List Nat) ok.room.units (by decide))) (ha.q w fun i w => hb.q w fun j w => ⟨_, ⟨rfl, w⟩, fun σ H F v u Q S r1 r2 q => by
    cases i with
    | inl m =>
      obtain ⟨p, dx, vs, ev, hp, _⟩ := ia_ob σ H F v S (show (pu m).rep Y.X.K F v from r1)
      exact .inl ⟨p, _, dx, vs, j, ev, hp, hc, r2, q⟩
    | inr z =>
      refine .inr ⟨z, j, DA.pu (α := List Nat) σ H F v S r1, DA.pu (α := List Nat) σ H F u S r2, ?_⟩
      have e : (!isT (α := γ) (.inr z) j) = decide (z ≠ j) := by simp [isT]
      rw [← e]; exact q⟩)
end
section
variable {e o : Expr} {p pos apos cpos p2 : Pos} {κ : Type} [DecidableEq κ] [Kk κ] [Enc κ] [KkV κ]
theorem c_sumV {W : (List (κ × Int) → Prop) → Prop} (ok : YOk Y) (T : Bis Y.X.mg) (hg : Gl Y.X "sum") (ho : EvD Y s o W) (hbase : attributeBase o "values" Y.X.env (eval o Y.X.env) = eval o Y.X.env := by exact ab_ok rfl) (hline : (apos.endLine == cpos.line) = true := by rfl)
    (hse : starEach [Expr.Call (.Attribute o "values" apos) [] [] cpos] Y.X.env = [(false, eval (Expr.Call (.Attribute o "values" apos) [] [] cpos) Y.X.env)] := by exact star_1 rfl) :
    EvC Y s (.Call (.Name "sum" p) [.Call (.Attribute o "values" apos) [] [] cpos] [] pos) fun k => W fun m => k (m.map (fun q => q.2)).sum := fun k w F0 σ H F e0 S => by
  refine .of (pe_sumVals ok.calm hg (T.no _ (by decide)) pe_we hbase hline hse) ?_
  refine (ho _ w F0 σ H F e0 S).mono fun v H1 ⟨A, _, F1, e1, r1, S1, m, hA, es, w⟩ => ?_
  subst es
  obtain ⟨d, kvs, ev, hd, rk⟩ := hA σ H1 F1 v S1 r1
  refine ⟨d, kvs, m.map (fun q : κ × Int => q.2), ev, hd, ?_, pu (α := Int) ((m.map (fun q : κ × Int => q.2)).sum), _, F1, e1, ?_, S1, _, rfl, rfl, w⟩
  rotate_left
  · exact rfl
  have key : ∀ {ks : List (Key × V)} {m : List (κ × Int)}, KVs Y.X.K F1 ks m → ks.map (·.2) = (m.map (·.2)).map V.int := by
    intro ks m h
    induction h with
    | nil => rfl
    | cons r _ ih => rw [List.map_cons, List.map_cons, List.map_cons, ih, show _ = V.int _ from r.2]
  exact key rk
end
end
end Sp
set_option maxHeartbeats 4000000
namespace RX
open PySem PySem.Spec PyProof.Rows
def IsRx (h : Heap) (a : Addr) (x : Str) (i : Int) : Prop := ∃ (o : Obj) (t : Tok), h.get? a = some o ∧ o.cls = .type "reversed" ∧ o.data = .fields #[.str x t, rawInt i]
section
variable {prog : Program} {w : World} {A : Around} {E : Value → Shared → Prop} {s : Shared} {x : Str} {t : Tok}
theorem IsRx.ty {a : Addr} {i : Int} (r : IsRx s.heap a x i) : s.TypeIs (.ref a) "reversed" := let ⟨o, _, ho, hc, _⟩ := r; ⟨o, ho, hc⟩
end
end RX
namespace Sp
open PySem L2
open PyProof.Rows (Call_ args_cons args_nil)
section
variable {X : Cx}
end
section
variable {Y : DX} {s : DSt} {a : Expr} {pos p p2 pos2 : Pos} {W : (List Nat → Prop) → Prop}
end
end Sp
set_option maxHeartbeats 4000000
namespace Sp
open PySem L2
section
variable {κ α : Type} [DecidableEq κ]
def grp : List (κ × List α) → κ → α → List (κ × List α)
  | [], k, v => [(k, [v])]
  | p :: r, k, v => if p.1 = k then (p.1, p.2 ++ [v]) :: r else p :: grp r k v
def gval : List (κ × List α) → κ → List α
  | [], _ => []
  | p :: r, k => if p.1 = k then p.2 else gval r k
def grefs : List (κ × List α) → (Nat → Addr) → List (κ × Rf)
  | [], _ => []
  | p :: r, f => (p.1, Rf.mk (f 0)) :: grefs r fun n => f (n + 1)
theorem grefs_len : ∀ (m : List (κ × List α)) (f : Nat → Addr), (grefs m f).length = m.length
  | [], _ => rfl
  | _ :: r, _ => congrArg (· + 1) (grefs_len r _)
section
variable [Enc α]
end
end
theorem dput_none {κ ν : Type} [DecidableEq κ] {m : List (κ × ν)} {k : κ} {x : ν} (h : dval m k = none) : dput m k x = m ++ [(k, x)] := by
  unfold dput
  rw [if_neg]
  intro z
  unfold dval at h
  rw [Option.map_eq_none_iff, List.find?_eq_none] at h
  obtain ⟨p, hp, hq⟩ := List.any_eq_true.mp z
  exact h p hp hq
theorem upd_id {H : Hp} {q : Addr} {o : HO} (h : H q = some o) : upd H q o = H := by
  funext a
  by_cases e : a = q
  · rw [e, upd_same, h]
  · rw [upd_ne e]
section
variable {Y : DX} {s : DSt} {o e f a : Expr} {pos p apos cpos : Pos} {D : DE} {sts : List Stmt} {Q : Pv → DSt → Prop}
variable {κ α : Type} [DecidableEq κ] [Kk κ] [Enc κ] [KkV κ] [Enc α]
theorem m2 {X : Cx} {o : Expr} {m : Str} {apos : Pos} {e f : Expr} {cpos : Pos} (h1 : noSup o = true) (h2 : noStar e = true) (h3 : noStar f = true) (h4 : (apos.endLine == cpos.line) = true) : M2 X o m apos e f cpos := by
  have s1 : starEach [f] X.env = (false, eval f X.env) :: starEach [] X.env := star_c h3
  have s2 : starEach [e, f] X.env = (false, eval e X.env) :: starEach [f] X.env := star_c h2
  refine ⟨ab_ok h1, ?_, h4, ?_⟩
  · rw [s2, s1]; rfl
  · rw [s2, s1]; rfl
end
section
variable {Y : DX} {s : DSt} {e : Expr} {pos p2 : Pos} {D : DE} {sts : List Stmt} {x : Str}
variable {κ α : Type} [DecidableEq κ] [Kk κ] [Enc κ] [KkV κ] [Enc α]
end
end Sp
namespace Sp
open PySem L2
section
variable {Y : DX} {s : DSt} {a b c : Expr} {pos : Pos} {o1 o2 : CmpOp} {r1 r2 : Int → Int → Bool} {Wa Wb Wc : (Int → Prop) → Prop}
theorem t_chainV (v : Int) (ha : EvC Y s a Wa) (hb : EvC Y s b Wb) (hc : EvC Y s c Wc) (h1 : OpR Y.X (compareOp o1) (fun x y H Q => ∃ i j, x = .int i ∧ y = .int j ∧ Q (.bl (r1 i j)) H)) (h2 : OpR Y.X (compareOp o2) (fun x y H Q => ∃ i j, x = .int i ∧ y = .int j ∧ Q (.bl (r2 i j)) H)) (hm : lastMarks [o1, o2] [b, c] = false := by with_unfolding_all rfl) :
    EvT Y s (.Compare a [o1, o2] [b, c] pos) fun k => Wa fun i => Wb fun j => (r1 i j = true → Wc fun z => z = v) ∧ k (r1 i j && r2 j v) := t_chain h1 h2 ha hb hc hm
end
end Sp
set_option maxHeartbeats 4000000
namespace Sp
open PySem L2
section
variable {Y : DX} {s : DSt} {scope : Scope} {β : Type} [Enc β] {tg elt iter : Expr} {ifs : List Expr} {gpos pos p : Pos}
variable {W : (List β → Prop) → Prop} {Wc : β → (Bool → Prop) → Prop}
end
section
variable {Y : DX} {s : DSt} {o e : Expr} {pos apos : Pos} {Wo : (List Nat → Prop) → Prop}
end
end Sp
set_option maxHeartbeats 4000000
namespace EH
open PySem
open AutoSeq1 (wpAny_loadPart')
theorem meets_new (l : Addr) (items : Array Value) (n : Nat) (dct : Option Addr) (sl : Array (Option Value)) :
    Meets (Builtin.«enumerate.__new__» ⟨[.type "enumerate", .ref l], []⟩) (fun _ R s => s.heap.get? l = some { slots := sl, dict := dct, data := .seq items n, cls := .type "tuple" } ∧
      R (.ok (.ret (.ref (s.heap.push { data := .fields #[.ref l, .int 0 0], cls := .type "tuple_iterator" }).objs.size)))
        { s with heap := (s.heap.push { data := .fields #[.ref l, .int 0 0], cls := .type "tuple_iterator" }).push { data := .fields #[.none, .bool false, .ref s.heap.objs.size, rawInt 0, .none, .none], cls := .type "enumerate" } }) :=
  .of_wp fun prog w A R s h => by
    obtain ⟨hp, g, d, tk, os⟩ := s; obtain ⟨hl, h⟩ := h
    have hsub := sub_enumerate
    have hT : Heap.IsTuple (Shared.heap ⟨hp, g, d, tk, os⟩) l items := ⟨_, hl, rfl, n, rfl⟩
    wp_walk using wpAny_loadPart' hl
    refine wpAny_stack_any fun st => wpAny_pure ?_
    split
    · rename_i c _ _ _ _ _
      cases (c == Value.type "enumerate")
      · wp_walk using wpAny_loadPart' hl, wpAny_pyIter_tuple hT
        exact ⟨_, rfl, h⟩
      · wp_walk using wpAny_loadPart' hl, wpAny_pyIter_tuple hT
        exact ⟨_, rfl, h⟩
    · wp_walk using wpAny_loadPart' hl, wpAny_pyIter_tuple hT
      exact ⟨_, rfl, h⟩
section
variable {prog : Program} {w : World} {A : Around} {E : Value → Shared → Prop} {s : Shared}
theorem call_enum {l : Addr} {items : Array Value} {Q : Value → Shared → Prop} (hT : s.heap.IsTuple l items)
    (h : ∀ h', IsEnum h' (s.heap.objs.size + 1) s.heap.objs.size 0 .none → h'.IsTupleIter s.heap.objs.size l 0 →
      (∀ b o, s.heap.get? b = some o → h'.get? b = some o) → Q (.ref (s.heap.objs.size + 1)) { s with heap := h' }) :
    wpAny (model prog w) A (call (.type "enumerate") [.ref l]) Q E s := by
  obtain ⟨⟨c, dct, dt, sl⟩, hl, hc, n, hd⟩ := hT
  replace hc : c = .type "tuple" := hc
  replace hd : dt = .seq items n := hd
  subst hc hd
  refine callType_new F.called_enumerate (by decide) (F.typeCall_enumerate_1 _) (F.newCall_enumerate_1 _) (fun ob => F.args_object_init_2 ob _) F.entry_enumerate_new
    (meets_new l items n dct sl) ⟨hl, ?_⟩
  have hz : (s.heap.push { data := .fields #[.ref l, .int 0 0], cls := .type "tuple_iterator" }).objs.size = s.heap.objs.size + 1 := Heap.size_push ..
  show _ ∧ _
  rw [hz]
  have he : IsEnum ((s.heap.push { data := .fields #[.ref l, .int 0 0], cls := .type "tuple_iterator" }).push
      { data := .fields #[.none, .bool false, .ref s.heap.objs.size, rawInt 0, .none, .none], cls := .type "enumerate" }) (s.heap.objs.size + 1) s.heap.objs.size 0 .none := by
    have := Heap.get?_push_size (s.heap.push { data := .fields #[.ref l, .int 0 0], cls := .type "tuple_iterator" })
      (o := { data := .fields #[.none, .bool false, .ref s.heap.objs.size, rawInt 0, .none, .none], cls := .type "enumerate" }) rfl
    rw [hz] at this; exact this
  exact ⟨⟨_, he, rfl⟩, h _ he ⟨_, Heap.get?_push_of_some _ (Heap.get?_push_size _ rfl), rfl, rfl⟩ fun b o x => Heap.get?_push_of_some _ (Heap.get?_push_of_some _ x)⟩
end
end EH
namespace Sp
open PySem PySem.Spec PyProof.Rows L2
def IteH (K : PySem.W.Frag) (a : Addr) (n : Nat) : It :=
  ⟨fun i H => i < n ∧ ∃ (xs : List V) (x : V), SqT K H a xs ∧ xs[i]? = some x, fun i H v H' => ∃ T x, v = .ref T ∧ H T = none ∧ H' = upd H T (.tup [.int (i : Nat), x]) ∧ ∀ xs, SqT K H a xs → xs[i]? = some x, fun i H => n ≤ i ∧ ∃ xs : List V, SqT K H a xs ∧ xs.length = n⟩
theorem turn_enumH {P : Program} {w : World} {K : PySem.W.Frag} {elts : List Expr} {kk : Nat} {tpos : Pos} (a e it : Addr) (n : Nat) :
    Turn P w K (.Tuple elts kk tpos) (IteH K a n) [e, it] e (fun i h => (∃ old, IsEnum h e it ((i : Nat) : Int) old) ∧ h.IsTupleIter it a i ∧ e ≠ it ∧ i ≤ n) where
  mem := by simp
  obj := fun i h st b hb => by
    obtain ⟨⟨old, he⟩, ⟨o, ho, hc, hd⟩, _⟩ := st
    have e' : b = e ∨ b = it := by simpa using hb
    rcases e' with z | z
    · rw [z]; exact ⟨_, he, fun v q => nomatch q⟩
    · rw [z]; exact ⟨o, ho, fun v q => by rw [hd] at q; cases q⟩
  keep := fun i h h' st k => let ⟨⟨old, he⟩, ⟨o, ho, r⟩, hne⟩ := st; ⟨⟨old, k e (by simp) _ he⟩, ⟨o, k it (by simp) o ho, r⟩, hne⟩
  item := by
    intro X hP hw hK hc i pins s σ H E I hf st hg
    subst hP hw hK
    obtain ⟨⟨old, he⟩, hit, hne, hle⟩ := st
    obtain ⟨hin, xs, x, hq, hx⟩ := hg
    obtain ⟨its, rv, p, hz⟩ := I.tuple hq
    obtain ⟨u, hu, ru⟩ := rv.get hx
    have hTa : s.heap.IsTuple a its.toArray := p
    have hel : e < s.heap.objs.size := Heap.lt_size he
    have hil : it < s.heap.objs.size := by obtain ⟨_, q, _⟩ := hit; exact Heap.lt_size q
    have hea : e ≠ a := fun z => by
      obtain ⟨o, ho, oc, _⟩ := p
      rw [← z, he] at ho
      cases ho
      exact absurd (Value.type.inj oc) (by decide)
    have hia : a ≠ it := fun z => by
      obtain ⟨o, ho, oc, _⟩ := p
      obtain ⟨o2, ho2, oc2, _⟩ := hit
      rw [z, ho2] at ho
      cases ho
      rw [oc] at oc2
      exact absurd (Value.type.inj oc2) (by decide)
    have hlt : i < its.toArray.size := by
      have := (List.getElem?_eq_some_iff.mp hu).1
      simpa using this
    refine wpAny_pyNext_enum_itemD (Draws.tuple (show X.A.in1.handled = none from I.ok.hd hc) it a hia its.toArray) he ⟨hit, hTa⟩ hlt hne (by simp [hne, hea]) fun v h' tk pv ho hit' hT hsz hk => ?_
    have ev : v = u := by
      have h1 : its[i]? = some v := by simpa using pv
      rw [hu] at h1
      exact (Option.some.inj h1).symm
    subst ev
    refine ⟨_, rfl, wpAny_letOwnedTupleGo_enum (s := { s with heap := h', toks := tk + 1 }) ho fun h'' he' sb => ?_⟩
    have hT2 : h''.get? s.heap.objs.size = some { cls := .type "tuple", data := .seq #[.int i tk, v] } := (sb.2 _ (Nat.ne_of_gt hel)).trans hT
    have new : ObjOk X.prog X.w (upd H s.heap.objs.size (.tup [.int (i : Nat), x])) h'' s.heap.objs.size (.tup [.int (i : Nat), x]) :=
      ⟨by show 2 ≤ sizeLine; decide, [.int i tk, v], .cons ⟨_, rfl⟩ (.cons ru .nil), ⟨_, hT2, rfl, _, rfl⟩⟩
    have I1 : Inv X pins σ (upd H s.heap.objs.size (.tup [.int (i : Nat), x])) { s with heap := h'', toks := tk + 1 } :=
      I.turnedNew (ch := [e, it]) (fun b ob hb q => (sb.2 b (fun z => hb (by simp [z]))).trans (hk b ob (fun z => hb (by simp [z])) (fun z => hb (by simp [z])) q)) hf (Nat.le_refl _) new
    refine ⟨.ref s.heap.objs.size, _, I1, rfl, ⟨_, x, rfl, I.hok.fresh (Nat.le_refl _), rfl, fun ys hy => by rw [I.tuple_inj hy hq]; exact hx⟩, ⟨⟨v, ?_⟩, ?_, hne, hin⟩, fun b hb => ?_⟩
    · have e1 : ((i + 1 : Nat) : Int) = (i : Int) + 1 := by omega
      rw [e1]; exact he'
    · obtain ⟨⟨o, ho2, r⟩, _⟩ := hit'
      exact ⟨o, (sb.2 it (Ne.symm hne)).trans ho2, r⟩
    · have hb' : b < s.heap.objs.size := by
        have e' : b = e ∨ b = it := by simpa using hb
        rcases e' with z | z
        · rw [z]; exact hel
        · rw [z]; exact hil
      rw [upd_ne (Nat.ne_of_lt hb')]
      exact (hf b hb).1
  done := by
    intro X hP hw hK hc i pins s σ H E I hf st hg
    subst hP hw hK
    obtain ⟨⟨old, he⟩, hit, hne, hle⟩ := st
    obtain ⟨hni, xs, hq, hx⟩ := hg
    obtain ⟨its, rv, p, hz⟩ := I.tuple hq
    obtain ⟨f0, f1, f2, f3, f4, f5⟩ := hf it (by simp)
    have hia : a ≠ it := fun z => by
      obtain ⟨o, ho, oc, _⟩ := p
      obtain ⟨o2, ho2, oc2, _⟩ := hit
      rw [z, ho2] at ho
      cases ho
      rw [oc] at oc2
      exact absurd (Value.type.inj oc2) (by decide)
    have hl := rv.length
    have hi : i = its.toArray.size := by
      rw [List.size_toArray, ← hl, hx]
      omega
    have hTa : s.heap.IsTuple a its.toArray := p
    subst hi
    exact wpAny_pyNext_enum_endD (Draws.tuple (show X.A.in1.handled = none from I.ok.hd hc) it a hia its.toArray) he ⟨hit, hTa⟩ fun h' eb => ⟨rfl, I.turned (t' := s.toks) (fun b o hb q => eb b o hb q) f0 f1 f3 f4 f5⟩
  self := fun A i s Q E st h => let ⟨⟨_, he⟩, _⟩ := st; wpAny_pyIter_enum he h
theorem pi_enumH {X : Cx} {e : Expr} {ta : TA} {p pos tpos : Pos} {elts : List Expr} {kk : Nat} (hg : Gl X "enumerate") (hm : X.mg "enumerate" = none) (ha : PA X [e] ta) (hs : starEach [e] X.env = [(false, eval e X.env)] := by rfl) :
    PI X (.Tuple elts kk tpos) (.Call (.Name "enumerate" p) [e] [] pos) (fun σ H R => ta σ H fun vs H1 => ∃ a xs, vs = [.ref a] ∧ SqT X.K H1 a xs ∧ R (IteH X.K a xs.length) H1) := by
  refine ⟨fun pins s σ H R I h => ?_⟩
  refine Call_ (ld_blt I hg hm boot_enumerate (PyProof.Rows.callWith_type1 (thn (ha.run pos pins s σ H _ I h) fun us s1 ⟨vs, H1, I1, r1, q1⟩ => ?_) hs rfl))
  obtain ⟨a, xs, ex, hq, q⟩ := q1
  subst ex
  cases r1 with
  | cons r rr =>
    cases rr
    cases r
    obtain ⟨its, rv, p', hz⟩ := I1.tuple hq
    refine EH.call_enum p' fun h' he hit hk => wpAny_pyIter_enum he ?_
    have I2 : Inv X pins σ H1 { s1 with heap := h' } := I1.kept (t' := s1.toks) hk
    refine ⟨s1.heap.objs.size + 1, [s1.heap.objs.size + 1, s1.heap.objs.size], _, _, H1, rfl, I2, turn_enumH a (s1.heap.objs.size + 1) s1.heap.objs.size xs.length, ⟨⟨.none, he⟩, hit, Nat.succ_ne_self _, Nat.zero_le _⟩, fun b hb => ?_, q⟩
    have e' : b = s1.heap.objs.size + 1 ∨ b = s1.heap.objs.size := by simpa using hb
    have hle : s1.heap.objs.size ≤ b := by
      rcases e' with z | z
      · rw [z]; exact Nat.le_add_right _ _
      · rw [z]; exact Nat.le_refl _
    exact I1.fpOk hle (I1.hok.fresh hle)
theorem i_enumH {Y : DX} {s : DSt} {a : Expr} {elts : List Expr} {kk : Nat} {p pos tpos : Pos} {α : Type} [Enc α] (_ok : YOk Y) (T : Bis Y.X.mg) (hg : Gl Y.X "enumerate") {WW : (Tup α → Prop) → Prop} (ha : EvC Y s a WW) (hs : starEach [a] Y.X.env = [(false, eval a Y.X.env)] := by exact star_1 rfl) : ItC Y s (.Tuple elts kk tpos) (.Call (.Name "enumerate" p) [a] [] pos) fun kk => WW fun xs => kk (enumD xs.items) := fun kk ww =>
  ⟨_, pi_enumH hg (T.no _ (by decide)) (pa_cons pe_we pa_nil hs) hs, fun F0 σ H F R e0 S k => (ha _ ww F0 σ H F e0 S).mono fun v H' ⟨_, _, F', e1, rr, S', xs, ea, es, ww⟩ => by
    subst ea es
    obtain ⟨p, vs, ev, hq, rv⟩ := rr
    have hlen := Paired.length rv
    exact ⟨p, vs, by rw [ev], sqT_ex2 hq S'.ext, k _ _ F' _ _ e1 S' (fun i H2 F2 e2 e3 => ⟨fun x hx => by
      have hq2 := sqT_ex2 (K := Y.X.K) (sqT_ex2 hq e2) e3
      unfold enumD at hx
      rw [List.getElem?_mapIdx] at hx
      cases q : xs.items[i]? with
      | none => rw [q] at hx; cases hx
      | some y =>
        rw [q] at hx
        cases hx
        obtain ⟨w, hw, rw'⟩ := prd_get rv q
        have hi : i < vs.length := (List.getElem?_eq_some_iff.mp hw).1
        refine ⟨⟨hi, vs, w, hq2, hw⟩, fun v H3 ⟨t, x, ev, ht, eh, hv⟩ => .inr ⟨t, _, ht, eh, ev, fun F3 e4 hs3 => ?_⟩⟩
        have := hv vs hq2
        rw [hw] at this
        cases this
        exact ⟨t, _, _, ev, hs3, rfl, Enc.mono rw' (e2.trans e4)⟩, fun hl => by
      unfold enumD at hl
      rw [List.length_mapIdx] at hl
      exact ⟨by omega, vs, sqT_ex2 (sqT_ex2 hq e2) e3, rfl⟩⟩) ⟨rfl, ww⟩⟩⟩
end Sp
set_option maxHeartbeats 4000000
namespace MN
open PySem PySem.Spec PyProof.Rows
section
variable {prog : Program} {w : World} {A : Around} {E : Value → Shared → Prop} {s : Shared}
end
end MN
namespace Sp
open PySem L2
section
variable {Y : DX} {s : DSt} {e : Expr} {es : List Expr} {pos p : Pos}
end
end Sp
set_option maxHeartbeats 4000000
namespace Sp
open PySem L2
section
variable {Y : DX} {s : DSt} {a b e tg : Expr} {pos p p2 pos2 : Pos} {D : DE} {sts : List Stmt} {x y : Str} {α β : Type} [Enc α] [Enc β]
section
variable {W : (Int → Prop) → Prop}
end
end
section
variable {Y : DX} {s : DSt} {e o : Expr} {pos p p2 apos ap2 pos2 : Pos} {D : DE} {sts : List Stmt} {x y : Str} {α : Type} [Enc α] [Inhabited α] {xs ys : List α} {q q2 : Addr} {W : (Int → Prop) → Prop}
end
end Sp
set_option maxHeartbeats 4000000
namespace Sp
open PySem L2
open PySem.W (Datum DatumOrd SomeDatum)
section
variable {o : Expr} {p pos apos cpos : Pos}
section
variable {Y : DX} {s : DSt} {κ ν : Type} [DecidableEq κ] [Kk κ] [Enc κ] [KkV κ] [Enc ν]
end
end
structure DcT (κ ν : Type) where
  kvs : List (κ × ν)
instance {κ ν : Type} : Inhabited (DcT κ ν) := ⟨⟨[]⟩⟩
class Kt (κ : Type) where
  key : κ → List Key
  inj : ∀ {a b : κ}, key a = key b → a = b
instance {α β : Type} [Kk α] [Kk β] : Kt (α × β) := ⟨fun x => [Kk.key x.1, Kk.key x.2], fun {a b} h => by
  injection h with h1 h2
  injection h2 with h2 _
  exact Prod.ext (Kk.inj h1) (Kk.inj h2)⟩
abbrev KTs {κ ν : Type} [Kt κ] [Enc ν] (K : Frag) (F : Hp) : List (List Key × V) → List (κ × ν) → Prop := Paired fun p q => p.1 = Kt.key q.1 ∧ Enc.rep K F p.2 q.2
theorem KTs.mono {κ ν : Type} [Kt κ] [Enc ν] {K : Frag} {F F' : Hp} {vs : List (List Key × V)} {xs : List (κ × ν)} (h : KTs K F vs xs) (e : Ext F F') : KTs K F' vs xs := Paired.mapP h fun _ _ r => ⟨r.1, Enc.mono r.2 e⟩
instance encDcT {κ ν : Type} [Kt κ] [Enc ν] : Enc (DcT κ ν) := ⟨fun K F v d => ∃ p od kvs, v = .ref p ∧ F p = some (.frz od (.dT kvs)) ∧ KTs K F kvs d.kvs,
  fun ⟨p, od, kvs, h1, h2, h3⟩ e => ⟨p, od, kvs, h1, e _ _ h2, h3.mono e⟩⟩
def dctT {κ ν : Type} [Kt κ] [Enc ν] (d : List (κ × ν)) : Cell := ⟨fun K F o => ∃ kvs, o = .dT kvs ∧ KTs K F kvs d, fun ⟨vs, h1, h2⟩ e => ⟨vs, h1, h2.mono e⟩⟩
def DFT (Y : DX) (s : DSt) {κ ν : Type} [Kt κ] [Enc ν] (A : Pv) (d : List (κ × ν)) : Prop := ∀ σ H F v, Sta Y s σ H F → A.rep Y.X.K F v → ∃ p kvs, v = .ref p ∧ Rd H p (.dT kvs) ∧ KTs Y.X.K F kvs d
def EvMT (Y : DX) (s : DSt) (e : Expr) {κ ν : Type} [Kt κ] [Enc ν] (W : (List (κ × ν) → Prop) → Prop) : Prop := ∀ k : List (κ × ν) → Prop, W k → Ev Y s e fun A s' => ∃ p m, A = raw (.ref p) ∧ s' = ⟨s.ρ, (p, dctT m) :: s.gs⟩ ∧ k m
section
variable {κ ν : Type} [DecidableEq κ] [Kt κ] [Enc ν] {K : Frag} {F : Hp}
end
section
variable {Y : DX} {s : DSt} {e a b c o f : Expr} {es : List Expr} {pos p apos cpos p2 pn ps : Pos} {D : DE} {sts : List Stmt} {x : Str} {q : Addr}
variable {κ ν : Type} [DecidableEq κ] [Kt κ] [Enc ν]
theorem DFT.pu {d : DcT κ ν} : DFT Y s (pu d) d.kvs := fun σ H F v S ⟨p, od, kvs, e, hp, r⟩ => ⟨p, kvs, e, .inr ⟨od, S.ext _ _ hp⟩, r⟩
theorem DFT.own {d : List (κ × ν)} {p : Addr} (i : Nat) (h : s.gs[i]? = some (p, dctT d)) : DFT Y s (raw (.ref p)) d := fun σ H F v S r => by
  obtain ⟨_, o, ho, _, vs, eo, rv⟩ := S.cell h
  subst eo
  exact ⟨p, vs, r, .inl ho, rv⟩
end
section
variable {P : Program} {w : World} {K : Frag} {tg : Expr} {d : Addr} {o : Obj} {es : Array DictEntry} {ep : Nat}
end
section
variable {Y : DX} {s : DSt} {a tg : Expr} {apos cpos : Pos} {κ ν : Type} [DecidableEq κ] [Kt κ] [Enc ν]
end
section
variable {κ : Type} [DecidableEq κ]
end
section
variable {o : Expr} {p pos apos cpos : Pos}
section
variable {Y : DX} {s : DSt} {κ ν : Type} [DecidableEq κ] [Kt κ] [Enc ν]
end
end
end Sp
set_option maxHeartbeats 4000000
namespace Sp
open PySem L2
section
variable {Y : DX} {s : DSt} {tg iter elt : Expr} {ifs : List Expr} {pos p gpos : Pos} {α β : Type} [Enc α] [Enc β] {k : Nat} {scope : Scope} {W : (List β → Prop) → Prop}
end
end Sp
set_option maxHeartbeats 4000000
namespace Sp
open PySem L2
open PySem.W PySem.Calls PyProof.Rows
def numFd (fld par : Str) (C : Addr) (K : Frag) (pf : Str) : FuncData → Bool
  | ⟨nm, qual, ⟨[], [⟨a0, _, _⟩, ⟨a1, _, _⟩], none, [], [], none, []⟩, .stmts [.Expr (.Call (.Attribute (.Call (.Name su _) [] [] _) ini p2) [.Constant (.str _) _ _] [] p4) _, .Assign [.Attribute (.Name se _) f2 _] (.Name pa _) _], sc, gl, [(k, cc)], .none, .none, _, _, _, .ref c, _, bl⟩ =>
    (p2.endLine == p4.line) && decide (nm = "__init__") && decide (a0 = "self") && decide (a1 = par) && decide (su = "super") && decide (ini = "__init__") && decide (se = "self") && decide (f2 = fld) && decide (pa = par) && decide (k = "__class__") && decide (gl = mainGlobals) && decide (bl = builtinsNs) &&
    decide (sc.kind = .function) && decide (sc.isGenerator = false) && decide (sc.isCoroutine = false) && decide (sc.names.lookup ("super" : Str) = some .globalImplicit) && decide (sc.names.lookup ("__class__" : Str) = some .free) && decide (sc.names.lookup ("self" : Str) = some .local) && decide (sc.names.lookup par = some .local) && (sc.names.all fun p => decide (p.2 ≠ .cell)) &&
    codeIn K (.ref c) qual && (match K.lookup c with
      | some ⟨_, _, .fields vs, _⟩ => (match (vs[2]? : Option Value) with
        | some (Value.str file _) => (pf == file)
        | _ => false)
      | _ => false) && (match K.lookup cc with
      | some ⟨_, _, .cell (some (.ref D)), _⟩ => decide (D = C)
      | _ => false)
  | _ => false
def numCls (K : Frag) (C : Addr) : Bool := match K.lookup C with
  | some ⟨.type "type", _, .cls cd, sl⟩ => (match cd.mro, sl.toList with
    | .ref C' :: bm, [_, _, _, _, some (.builtin n), _] => decide (C' = C) && decide (n = "ValueError.__new__") && decide (cd.hasDel = false) && decide (cd.hasDict = true) && PySem.HandSPX.refsVE bm && decide (alongIn K "__init__" bm = some (some (.builtin "ValueError.__init__")))
    | _, _ => false)
  | _ => false
def numB (pf : Str) (K : Frag) (C : Addr) (fld par : Str) : Bool :=
  numCls K C && decide (findIn K (.ref C) "__setattr__" = some (some (.builtin "object.__setattr__"))) && decide (subIn K (.ref C) (.type "BaseException") = some true) && decide (typeIn K (.ref C) = some (.type "type")) && keepIn K (.ref C) && xfB K C && decide (findIn K (.ref C) fld = some none) &&
  decide (nsIn K cStatics "thirdparty.any" = some none) && decide (nsIn K mainGlobals "super" = some none) && decide (subIn K (.ref C) (.type "ValueError") = some true) && (match findIn K (.ref C) "__init__" with
    | some (some (.ref f)) => decide (typeIn K (.ref f) = some (.type "function")) && (match K.lookup f with
      | some ⟨_, _, .func fd, _⟩ => numFd fld par C K pf fd
      | _ => false)
    | _ => false)
structure NumC (pf : Str) (K : Frag) (C : Addr) (fld par : Str) : Prop where
  T : OexC K C
  xf : XfC K C
  no : findIn K (.ref C) fld = some none
  op : nsIn K cStatics "thirdparty.any" = some none
  su : nsIn K mainGlobals "super" = some none
  ve : subIn K (.ref C) (.type "ValueError") = some true
  cl : ∃ cd bm, clsIn K C = some cd ∧ cd.mro = .ref C :: bm ∧ cd.hasDict = true ∧ PySem.HandSPX.refsVE bm = true ∧ alongIn K "__init__" bm = some (some (.builtin "ValueError.__init__"))
  fn : ∃ (f cc c : Addr) (qual : Str) (an0 an1 : Option Expr) (ap0 ap1 : Pos) (p0 p1 p2 p3 p4 p5 q1 q2 q3 q4 : Pos) (m : Str) (j : Nat) (sc : Scope) (doc pm ct oc : Value) (an od : Option Addr) (osl : Array (Option Value)),
    findIn K (.ref C) "__init__" = some (some (.ref f)) ∧ typeIn K (.ref f) = some (.type "function") ∧
    K.lookup f = some ⟨oc, od, .func (fnX "__init__" qual ⟨[], [⟨"self", an0, ap0⟩, ⟨par, an1, ap1⟩], none, [], [], none, []⟩
      [.Expr (.Call (.Attribute (.Call (.Name "super" p0) [] [] p1) "__init__" p2) [.Constant (.str m) j p3] [] p4) p5, .Assign [.Attribute (.Name "self" q1) fld q2] (.Name par q3) q4] sc [("__class__", cc)] .none .none doc pm an (.ref c) ct), osl⟩ ∧
    (p2.endLine == p4.line) = true ∧ sc.kind = .function ∧ sc.isGenerator = false ∧ sc.isCoroutine = false ∧ sc.names.lookup ("super" : Str) = some .globalImplicit ∧ sc.names.lookup ("__class__" : Str) = some .free ∧ sc.names.lookup ("self" : Str) = some .local ∧ sc.names.lookup par = some .local ∧ (∀ x ∈ sc.names, x.2 ≠ .cell) ∧
    codeIn K (.ref c) qual = true ∧ (∃ ccl cdd vs ccs file tf, K.lookup c = some ⟨ccl, cdd, .fields vs, ccs⟩ ∧ vs[2]? = some (.str file tf) ∧ (pf == file) = true) ∧ ∃ cl cld csl, K.lookup cc = some ⟨cl, cld, .cell (some (.ref C)), csl⟩
end Sp
set_option maxHeartbeats 4000000
namespace PySem
namespace NumX
open PySem.W PySem.Calls PyProof.Rows
section
variable {prog : Program} {w : World} {A : Around} {E : Value → Shared → Prop} {h : Heap} {g : Array GenState} {d : Drawn} {t : Nat} {os : OsState}
variable {nm q : Str} {C N : Addr} {bs bm : List Value} {hdct : Bool} {sn : List Str} {sub : List Value} {ab : Bool} {col : Option Bool} {dd : Option Addr} {k0 k1 k2 k3 k5 : Option Value}
end
end NumX
end PySem
namespace Sp
open PySem L2
open PySem.W PySem.Calls PyProof.Rows
section
variable {prog : Program} {w : World} {A : Around} {pf : Str} {K : Frag} {C : Addr} {fld par : Str} {mg : Str → Option Value} {R : Result → Shared → Prop} {hp : Heap} {g : Array GenState} {dr : Drawn} {tk : Nat} {os : OsState}
end
end Sp
set_option maxHeartbeats 4000000
namespace Sp
open PySem L2
open PySem.W PySem.Calls PyProof.Rows
structure Num (P : Program) (K : Frag) (C : Addr) (fld par : Str) : Prop where
  c : NumC P.main.file K C fld par
  top : (P.main.scope.names.lookup ("super" : Str)).isSome = false
  par : par = "row" ∨ par = "part"
section
variable {Y : DX} {s : DSt} {e : Expr} {D : DE} {sts : List Stmt}
end
end Sp
set_option maxHeartbeats 4000000
namespace Sp
open PySem L2
def TTp (C : Addr) (fld ret : Str) : (XK → Hp → VK → Prop) → Hp → VK → Prop := fun tl H Q =>
  tl (fun cls d H' => ∃ r dd, cls = .ref C ∧ d = some dd ∧ H' dd = some (.xd [(fld, .int r)]) ∧ Q (.int r) H') H (fun _ H' => Q (.str ret) H')
structure PartD (X : Cx) (x : Str) (C : Addr) (fld ret : Str) : Prop where
  ex : ∃ (a : Str) (g : Addr) (pg : Arguments) (bg : List Stmt) (sg : Scope) (dV kV doc pm cdv ct oc : Value) (an od : Option Addr) (osl : Array (Option Value)) (Ng : List Str),
    X.mg x = some (.ref g) ∧ PySem.W.keepIn X.K (.ref g) = true ∧ X.K.lookup g = some ⟨oc, od, .func (PySem.W.fnOf x x pg bg sg dV kV doc pm an cdv ct), osl⟩ ∧ PySem.W.codeIn X.K cdv x = true ∧
    L2.Binds X.K (PySem.W.fnOf x x pg bg sg dV kV doc pm an cdv ct) [a] [] ∧ FnScope Ng [a] sg ∧ Ng[0]? = some a ∧ Vis sg a ∧ (a == ("__debug__" : Str)) = false ∧ (a == ("__classdict__" : Str)) = false ∧
    ∀ q, LamX.GivesTo X Ng x sg g cdv bg a q (TTp C fld ret)
section
variable {Y : DX} {s : DSt} {e body : Expr} {pos p lpos : Pos} {Q : Pv → DSt → Prop} {scope : Scope}
variable {α : Type} [Enc α]
end
end Sp
set_option maxHeartbeats 4000000
namespace MN3
open PySem PySem.Spec PyProof.Rows
section
variable {prog : Program} {w : World} {A : Around} {E : Value → Shared → Prop} {s : Shared}
end
end MN3
namespace Sp
open PySem L2
section
variable {Y : DX} {s : DSt} {e : Expr} {es : List Expr} {pos p : Pos}
end
end Sp
namespace Sp
open PySem L2
open PySem.W (Datum DatumOrd SomeDatum)
section
variable {Y : DX} {s : DSt} {e a b c o f : Expr} {es : List Expr} {pos p p2 pos2 apos : Pos} {D : DE} {sts : List Stmt}
theorem EvN.q {α : Type} [Enc α] {W : (List α → Prop) → Prop} {k : List α → Prop} {Q : Pv → DSt → Prop} (h : EvN Y s e W) (w : W k) (q : ∀ p xs, k xs → Q (raw (.ref p)) ⟨s.ρ, (p, lstc xs) :: s.gs⟩) : Ev Y s e Q :=
  (h k w).mono fun A s' ⟨p, xs, ea, es, kx⟩ => by subst ea es; exact q p xs kx
theorem EvM.q {κ ν : Type} [Kk κ] [Enc ν] {W : (List (κ × ν) → Prop) → Prop} {k : List (κ × ν) → Prop} {Q : Pv → DSt → Prop} (h : EvM Y s e W) (w : W k) (q : ∀ p xs, k xs → Q (raw (.ref p)) ⟨s.ρ, (p, dctc xs) :: s.gs⟩) : Ev Y s e Q :=
  (h k w).mono fun A s' ⟨p, xs, ea, es, kx⟩ => by subst ea es; exact q p xs kx
theorem EvMT.q {κ ν : Type} [Kt κ] [Enc ν] {W : (List (κ × ν) → Prop) → Prop} {k : List (κ × ν) → Prop} {Q : Pv → DSt → Prop} (h : EvMT Y s e W) (w : W k) (q : ∀ p xs, k xs → Q (raw (.ref p)) ⟨s.ρ, (p, dctT xs) :: s.gs⟩) : Ev Y s e Q :=
  (h k w).mono fun A s' ⟨p, xs, ea, es, kx⟩ => by subst ea es; exact q p xs kx
section
variable {κ ν : Type} [DecidableEq κ] [Kk κ] [Enc κ] [KkV κ] [Enc ν]
end
class FlatU (α : Type) [Enc α] extends FlatV α where
  of : ∀ {K : Frag} {F : Hp} {v : V} {a : α}, Enc.rep K F v a → v = z a
instance : FlatU Int := ⟨fun h => h⟩
instance : FlatU (List Nat) := ⟨fun h => h⟩
section
variable {δ : Type} [DecidableEq δ] [Enc δ] [DatumOrd δ] [Dat δ]
end
end
end Sp
set_option maxHeartbeats 4000000
namespace Sp
open PySem L2
open PySem.W (Datum DatumOrd SomeDatum)
instance {α β γ : Type} [Kk α] [Kk β] [Kk γ] : Kt (T3 α β γ) := ⟨fun x => [Kk.key x.a, Kk.key x.b, Kk.key x.c], fun {a b} h => by
  injection h with h1 h2
  injection h2 with h2 h3
  injection h3 with h3 _
  obtain ⟨a1, a2, a3⟩ := a
  obtain ⟨b1, b2, b3⟩ := b
  obtain rfl : a1 = b1 := Kk.inj h1
  obtain rfl : a2 = b2 := Kk.inj h2
  obtain rfl : a3 = b3 := Kk.inj h3
  rfl⟩
theorem kk_list {α : Type} [Kk α] : ∀ {a b : List α}, a.map Kk.key = b.map Kk.key → a = b
  | [], [], _ => rfl
  | [], _ :: _, h => by cases h
  | _ :: _, [], h => by cases h
  | x :: a, y :: b, h => by
    injection h with h1 h2
    rw [Kk.inj h1, kk_list h2]
instance {α : Type} [Kk α] : Kt (Tup α) := ⟨fun x => x.items.map Kk.key, fun {a b} h => by
  obtain ⟨a⟩ := a
  obtain ⟨b⟩ := b
  exact congrArg PySem.W.Tup.mk (kk_list h)⟩
class KtV (κ : Type) [Kt κ] [Enc κ] : Prop where
  of : ∀ {K : Frag} {F : Hp} {v : V} {k : κ}, Enc.rep K F v k → ∃ b, v = .ref b ∧ F b = some (.tup ((Kt.key k).map kV))
  rep : ∀ {K : Frag} {F : Hp} {b : Addr} {k : κ}, F b = some (.tup ((Kt.key k).map kV)) → Enc.rep K F (.ref b) k
instance {α β : Type} [Kk α] [Kk β] [Enc α] [Enc β] [KkV α] [KkV β] : KtV (α × β) := ⟨fun {K F v k} ⟨p, a, b, h1, h2, h3, h4⟩ => ⟨p, h1, by rw [h2, KkV.of h3, KkV.of h4]; rfl⟩,
  fun {K F b k} h => ⟨b, _, _, rfl, h, KkV.rep _, KkV.rep _⟩⟩
instance {α β γ : Type} [Kk α] [Kk β] [Kk γ] [Enc α] [Enc β] [Enc γ] [KkV α] [KkV β] [KkV γ] : KtV (T3 α β γ) := ⟨fun {K F v k} ⟨p, a, b, c, h1, h2, h3, h4, h5⟩ => ⟨p, h1, by rw [h2, KkV.of h3, KkV.of h4, KkV.of h5]; rfl⟩,
  fun {K F b k} h => ⟨b, _, _, _, rfl, h, KkV.rep _, KkV.rep _, KkV.rep _⟩⟩
theorem vs_keys {α : Type} [Kk α] [Enc α] [KkV α] {K : Frag} {F : Hp} : ∀ {vs : List V} {xs : List α}, Vs K F vs xs → vs = (xs.map Kk.key).map kV
  | _, _, .nil => rfl
  | _, _, .cons r t => by rw [List.map_cons, List.map_cons, ← vs_keys t, KkV.of r]
theorem keys_vsR {α : Type} [Kk α] [Enc α] [KkV α] {K : Frag} {F : Hp} : ∀ (xs : List α), Vs K F ((xs.map Kk.key).map kV) xs
  | [] => .nil
  | _ :: r => .cons (KkV.rep _) (keys_vsR r)
section
variable {Y : DX} {s : DSt} {e a b c o f : Expr} {es : List Expr} {pos p p2 pos2 apos : Pos} {D : DE} {sts : List Stmt}
variable {κ ν : Type} [DecidableEq κ] [Kt κ] [Enc κ] [KtV κ] [Enc ν]
end
end Sp
set_option maxHeartbeats 4000000
namespace Sp
open PySem L2
open PySem.W (Datum DatumOrd SomeDatum)
section
variable {Y : DX} {s : DSt} {e a b c o f : Expr} {es : List Expr} {pos p p2 pos2 apos : Pos} {D : DE} {sts : List Stmt}
variable {κ ν : Type} [DecidableEq κ] [Kt κ] [Enc κ] [KtV κ] [Enc ν]
end
end Sp
set_option maxHeartbeats 4000000
namespace Sp
open PySem L2
open PySem.W (Datum DatumOrd SomeDatum)
def WTT (X : Cx) (e : Expr) (σ : St) (H : Hp) (Q : Bool → Hp → Prop) : Prop :=
  ∀ (pins : List (Addr × Obj)) (s : Shared), 1 ≤ s.toks → Inv X pins σ H s → wpAny (model X.prog X.w) X.A (isTrue e X.env (eval e X.env)) (TP X pins σ Q) X.xe s
section
variable {X : Cx} {a b e : Expr} {σ : St} {H : Hp} {pos p : Pos} {Q : Bool → Hp → Prop}
end
section
variable {Y : DX} {s : DSt} {e a b c d o : Expr} {pos p p2 p3 apos c0 c1 : Pos} {j k : Nat}
theorem WTT.mono {X : Cx} {σ : St} {H : Hp} {Q Q' : Bool → Hp → Prop} (h : WTT X e σ H Q) (k : ∀ b H', Q b H' → Q' b H') : WTT X e σ H Q' := fun pins s h0 I => thn (h pins s h0 I) fun b _ ⟨H', J, q⟩ => ⟨H', J, k b H' q⟩
end
end Sp
set_option maxHeartbeats 4000000
namespace Sp
open PySem L2 He
open PySem.Spec
def asS (g : Addr → Option Obj) (n : Nat) : List Addr := asD g n ++ [cStatics]
def obsY (n : Nat) (fa : List Fa) (fn : List DefD) (ts : List Tab) (tf : List Defn) (ex : PySem.W.Frag → Bool) (g : Addr → Option Obj) : AlX := (obsT fa fn ts (frT g (asS g n)), ex (frT g (asS g n)) && tabsB g tf (frT g (asS g n)))
theorem saysY_of {n : Nat} {fa : List Fa} {fn : List DefD} {ts : List Tab} {tf : List Defn} {ex : PySem.W.Frag → Bool} {w : World} {h : Heap} (e : obsY n fa fn ts tf ex h.get? = valX fn ts w) : SaysX fa fn ts tf ex w h (frT h.get? (asS h.get? n)) := by
  have e1 : obsT fa fn ts (frT h.get? (asS h.get? n)) = valT fn ts w := congrArg (fun z : AlX => z.1) e
  have e2 : (ex (frT h.get? (asS h.get? n)) && tabsB h.get? tf (frT h.get? (asS h.get? n))) = true := congrArg (fun z : AlX => z.2) e
  rw [Bool.and_eq_true] at e2
  obtain ⟨h1, h2⟩ := e2
  have key : ∀ p ∈ tf, PySem.W.codeHdIn (frT h.get? (asS h.get? n)) (cT (frT h.get? (asS h.get? n)) p).1 (cT (frT h.get? (asS h.get? n)) p).2 = true ∧ ∃ o, h.get? (cT (frT h.get? (asS h.get? n)) p).2 = some o ∧ emptyTab o = true := fun p hp => by
    have h0 := List.all_eq_true.mp h2 p hp
    rw [Bool.and_eq_true] at h0
    obtain ⟨h3, h4⟩ := h0
    refine ⟨h3, ?_⟩
    cases q : h.get? (cT (frT h.get? (asS h.get? n)) p).2 with
    | none => rw [q] at h4; cases h4
    | some o => rw [q] at h4; exact ⟨o, rfl, h4⟩
  exact ⟨e1, h1, fun p hp => (key p hp).1, fun p hp => by
    obtain ⟨_, o, q, z⟩ := key p hp
    exact frT_none q z, fun p hp => by
    obtain ⟨_, o, q, z⟩ := key p hp
    rw [q, emptyTab_eq z]⟩
def hookY (n : Nat) (fa : List Fa) (fn : List DefD) (ts : List Tab) (tf : List Defn) (ex : PySem.W.Frag → Bool) : PySem.W.Hook where
  α := AlX
  obs := fun s => obsY n fa fn ts tf ex s.heap.get?
  val := fun w => valX fn ts w
  says := fun w h => ∃ K : PySem.W.Frag, K.In h ∧ SaysX fa fn ts tf ex w h K
  of := fun _ _ e => ⟨_, frT_in, saysY_of e⟩
  keeps := fun _ _ _ ⟨K, hK, c⟩ k => ⟨K, PySem.W.Frag.In.keeps hK k, ⟨c.t, c.more, c.hd, c.out, fun p hp => k _ _ (c.empty p hp)⟩⟩
theorem obsY_eq {n : Nat} {fa : List Fa} {fn : List DefD} {ts : List Tab} {tf : List Defn} {ex : PySem.W.Frag → Bool} {g : Addr → Option Obj} {s : Shared} (h : ∀ a, g a = s.heap.get? a) : obsY n fa fn ts tf ex g = (hookY n fa fn ts tf ex).obs s := by
  have e : g = s.heap.get? := funext h
  rw [e] <;> rfl
end Sp
set_option maxHeartbeats 4000000
namespace Sp
open PySem L2
open PySem.W (DatumOrd)
section
variable {ρ : Type} {w : (ρ → Prop) → (Ex → Prop) → Prop} {k : ρ → Prop} {E : Ex → Prop}
theorem Cl.here (h : w k E) : Cl w k E := ⟨k, E, h, fun _ r => r, fun _ r => r⟩
theorem Cl.val {r : ρ} (h : w (fun x => x = r) NoE) (q : k r) : Cl w k E := ⟨_, _, h, fun _ e => by subst e; exact q, fun _ h => h.elim⟩
theorem Cl.exc {e : Ex} (h : w (fun _ => False) (fun x => x = e)) (q : E e) : Cl w k E := ⟨_, _, h, fun _ h => h.elim, fun _ h => by subst h; exact q⟩
theorem Cl.mono {k' : ρ → Prop} {E' : Ex → Prop} (h : Cl w k E) (h1 : ∀ r, k r → k' r) (h2 : ∀ e, E e → E' e) : Cl w k' E' :=
  let ⟨R0, E0, a, b, c⟩ := h
  ⟨R0, E0, a, fun r x => h1 r (b r x), fun e x => h2 e (c e x)⟩
end
theorem ClD.here {ρ : Type} {w : (ρ → Prop) → (Ex → Prop) → Prop} {k : ρ → Prop} (h : w k NoE) : ClD w k := ⟨k, h, fun _ r => r⟩
theorem ClD.roll {n : Int} {k : Int → Prop} (h0 : 0 < n) (h1 : n < 1073741824) (h : ∀ r : Int, 0 ≤ r → r < n → k r) : ClD (rollW (n, ())) k := ⟨k, ⟨h0, h1, h⟩, fun _ r => r⟩
section
variable {β Z : Type} {items : List β} {z0 : Z} {body : β → Z → (Z → Prop) → Prop} {rest : Z → Prop}
theorem forW.inv (P : List β → Z → Prop) (h0 : P [] z0) (hs : ∀ l x r z, items = l ++ x :: r → P l z → body x z (P (l ++ [x]))) (he : ∀ z, P items z → rest z) : forW items z0 body rest :=
  ⟨fun i z => P (items.take i) z, by simpa using h0, fun i x z hx h => by
    have hlt := (List.getElem?_eq_some_iff.mp hx).1
    have e : items = items.take i ++ x :: items.drop (i + 1) := by
      have := List.take_append_drop i items
      rw [List.drop_eq_getElem_cons hlt] at this
      rw [(List.getElem?_eq_some_iff.mp hx).2] at this
      exact this.symm
    have := hs _ _ _ z e h
    have e2 : items.take (i + 1) = items.take i ++ [x] := by rw [List.take_add_one, hx]; rfl
    show body x z (fun z => P (items.take (i + 1)) z)
    rw [e2]
    exact this, fun z h => he z (by simpa using h)⟩
end
theorem ifJ.mk {Z : Type} {b : Bool} {B C : (Z → Prop) → Prop} {rest : Z → Prop} (h1 : b = true → B rest) (h2 : b = false → C rest) : ifJ b B C rest := ⟨h1, h2⟩
section
variable {β α : Type} {P : β → α → Prop} {xs : List β} {ys : List α}
theorem Each.all {R : α → Prop} (h : Each P xs ys) (q : ∀ x ∈ xs, ∀ y, P x y → R y) : ∀ y ∈ ys, R y := by
  induction h with
  | nil => intro y hy; cases hy
  | cons p _ ih =>
    intro y hy
    rcases List.mem_cons.mp hy with rfl | hy
    · exact q _ (List.mem_cons_self ..) _ p
    · exact ih (fun x hx => q x (List.mem_cons_of_mem _ hx)) y hy
theorem Each.length {P : β → α → Prop} (h : Each P xs ys) : ys.length = xs.length := h.len
end
theorem ixS_mem {x : Txt} {i : Int} (h0 : 0 ≤ i) (h1 : i < x.length) : ∃ c ∈ x, ixS x i = [c] := by
  unfold ixS plc
  rw [if_pos h0]
  have : i.toNat < x.length := by omega
  refine ⟨x[i.toNat], List.getElem_mem this, ?_⟩
  rw [List.getD_eq_getElem?_getD, List.getElem?_eq_getElem this] <;> rfl
theorem ixD_mem {α : Type} [Inhabited α] {x : List α} {i : Int} (h0 : 0 ≤ i) (h1 : i < x.length) : ixD x i ∈ x := by
  unfold ixD plc
  rw [if_pos h0]
  have : i.toNat < x.length := by omega
  rw [List.getD_eq_getElem?_getD, List.getElem?_eq_getElem this]
  exact List.getElem_mem this
theorem joinT_nil : ∀ xs : List Txt, joinT [] xs = xs.flatten
  | [] => rfl
  | [x] => by simp [joinT]
  | x :: y :: r => by
    rw [joinT, joinT_nil (y :: r)]
    simp
theorem lenSum_cons (x : Txt) (xs : List Txt) : lenSum (x :: xs) = x.length + lenSum xs := by simp [lenSum]
theorem srt_perm {α : Type} [DecidableEq α] [DatumOrd α] (xs : List α) : (srt xs).Perm xs := List.mergeSort_perm _ _
theorem srt_len {α : Type} [DecidableEq α] [DatumOrd α] (xs : List α) : (srt xs).length = xs.length := (srt_perm xs).length_eq
theorem srt_mem {α : Type} [DecidableEq α] [DatumOrd α] {xs : List α} {x : α} : x ∈ srt xs ↔ x ∈ xs := (srt_perm xs).mem_iff
class Lin (α : Type) [DecidableEq α] [DatumOrd α] : Prop where
  irr : ∀ a : α, DatumOrd.lt a a = false
  tr : ∀ a b c : α, DatumOrd.lt a b = true → DatumOrd.lt b c = true → DatumOrd.lt a c = true
  tot : ∀ a b : α, DatumOrd.lt a b = false → DatumOrd.lt b a = false → a = b
instance : Lin Int := ⟨fun a => decide_eq_false (Int.lt_irrefl a), fun a b c h1 h2 => decide_eq_true (Int.lt_trans (of_decide_eq_true h1) (of_decide_eq_true h2)), fun a b h1 h2 => by
  have h1 := of_decide_eq_false h1
  have h2 := of_decide_eq_false h2
  omega⟩
instance : Lin (List Nat) := ⟨fun a => decide_eq_false (List.lt_irrefl a), fun a b c h1 h2 => decide_eq_true (List.lt_trans (of_decide_eq_true h1) (of_decide_eq_true h2)), fun a b h1 h2 =>
  List.le_antisymm (List.not_lt.mp (of_decide_eq_false h2)) (List.not_lt.mp (of_decide_eq_false h1))⟩
instance {α β : Type} [DecidableEq α] [DecidableEq β] [DatumOrd α] [DatumOrd β] [Lin α] [Lin β] : Lin (α × β) where
  irr a := by show (if a.1 = a.1 then _ else _) = false; rw [if_pos rfl]; exact Lin.irr _
  tr a b c h1 h2 := by
    have h1 : (if a.1 = b.1 then DatumOrd.lt a.2 b.2 else DatumOrd.lt a.1 b.1) = true := h1
    have h2 : (if b.1 = c.1 then DatumOrd.lt b.2 c.2 else DatumOrd.lt b.1 c.1) = true := h2
    show (if a.1 = c.1 then DatumOrd.lt a.2 c.2 else DatumOrd.lt a.1 c.1) = true
    by_cases e1 : a.1 = b.1
    · rw [if_pos e1] at h1
      by_cases e2 : b.1 = c.1
      · rw [if_pos e2] at h2; rw [if_pos (e1.trans e2)]; exact Lin.tr _ _ _ h1 h2
      · rw [if_neg e2] at h2; rw [if_neg (fun e => e2 (e1.symm.trans e)), e1]; exact h2
    · rw [if_neg e1] at h1
      by_cases e2 : b.1 = c.1
      · rw [if_neg (fun e => e1 (e.trans e2.symm)), ← e2]; exact h1
      · rw [if_neg e2] at h2
        have h3 := Lin.tr _ _ _ h1 h2
        by_cases e3 : a.1 = c.1
        · rw [e3, Lin.irr] at h3; cases h3
        · rw [if_neg e3]; exact h3
  tot a b h1 h2 := by
    have h1 : (if a.1 = b.1 then DatumOrd.lt a.2 b.2 else DatumOrd.lt a.1 b.1) = false := h1
    have h2 : (if b.1 = a.1 then DatumOrd.lt b.2 a.2 else DatumOrd.lt b.1 a.1) = false := h2
    by_cases e1 : a.1 = b.1
    · rw [if_pos e1] at h1
      rw [if_pos e1.symm] at h2
      exact Prod.ext e1 (Lin.tot _ _ h1 h2)
    · rw [if_neg e1] at h1
      rw [if_neg (Ne.symm e1)] at h2
      exact absurd (Lin.tot _ _ h1 h2) e1
section
variable {α : Type} [DecidableEq α] [DatumOrd α] [Lin α]
theorem Lin.asym {a b : α} (h : DatumOrd.lt a b = true) : DatumOrd.lt b a = false := by
  cases e : DatumOrd.lt b a with
  | false => rfl
  | true => have := Lin.tr _ _ _ h e; rw [Lin.irr] at this; cases this
theorem Lin.le_tr {a b c : α} (h1 : DatumOrd.lt b a = false) (h2 : DatumOrd.lt c b = false) : DatumOrd.lt c a = false := by
  cases e : DatumOrd.lt c a with
  | false => rfl
  | true =>
    cases e2 : DatumOrd.lt a b with
    | true => rw [Lin.tr _ _ _ e e2] at h2; cases h2
    | false => rw [Lin.tot _ _ e2 h1] at e; rw [e] at h2; cases h2
theorem srt_sorted (xs : List α) : (srt xs).Pairwise fun a b => DatumOrd.lt b a = false := by
  have h := List.pairwise_mergeSort (le := fun a b : α => !DatumOrd.lt b a) (fun a b c h1 h2 => by
    rw [Bool.not_eq_true'] at h1 h2 ⊢
    exact Lin.le_tr h1 h2) (fun a b => by
    cases e : DatumOrd.lt b a with
    | false => rfl
    | true => rw [Lin.asym e]; rfl) xs
  exact h.imp fun h => by rwa [Bool.not_eq_true'] at h
theorem sorted_eq {xs ys : List α} (h1 : xs.Pairwise fun a b => DatumOrd.lt b a = false) (h2 : ys.Pairwise fun a b => DatumOrd.lt b a = false) (p : xs.Perm ys) : xs = ys :=
  List.Perm.eq_of_pairwise (fun a b _ _ x y => Lin.tot a b y x) h1 h2 p
theorem srt_congr {xs ys : List α} (p : xs.Perm ys) : srt xs = srt ys := sorted_eq (srt_sorted _) (srt_sorted _) ((srt_perm xs).trans (p.trans (srt_perm ys).symm))
theorem srt_of {xs ys : List α} (h : ys.Pairwise fun a b => DatumOrd.lt b a = false) (p : xs.Perm ys) : srt xs = ys := sorted_eq (srt_sorted _) h ((srt_perm xs).trans p)
theorem minOf_mem : ∀ (xs : List α) (x : α), PySem.W.minOf x xs = x ∨ PySem.W.minOf x xs ∈ xs
  | [], x => .inl rfl
  | y :: xs, x => by
    show PySem.W.minOf (if DatumOrd.lt y x = true then y else x) xs = x ∨ _
    rcases minOf_mem xs (if DatumOrd.lt y x = true then y else x) with h | h
    · by_cases e : DatumOrd.lt y x = true
      · rw [if_pos e] at h; exact .inr (by show PySem.W.minOf (if DatumOrd.lt y x = true then y else x) xs ∈ _; rw [if_pos e, h]; exact List.mem_cons_self ..)
      · rw [if_neg e] at h; exact .inl (by rw [if_neg e, h])
    · exact .inr (List.mem_cons_of_mem _ h)
theorem minOf_le : ∀ (xs : List α) (x : α), DatumOrd.lt x (PySem.W.minOf x xs) = false ∧ ∀ y ∈ xs, DatumOrd.lt y (PySem.W.minOf x xs) = false
  | [], x => ⟨Lin.irr x, fun y h => by cases h⟩
  | z :: xs, x => by
    have ih := minOf_le xs (if DatumOrd.lt z x = true then z else x)
    show DatumOrd.lt x (PySem.W.minOf (if DatumOrd.lt z x = true then z else x) xs) = false ∧ _
    have e0 : PySem.W.minOf x (z :: xs) = PySem.W.minOf (if DatumOrd.lt z x = true then z else x) xs := rfl
    rw [e0]
    have hx : DatumOrd.lt x (if DatumOrd.lt z x = true then z else x) = false := by
      by_cases e : DatumOrd.lt z x = true
      · rw [if_pos e]; exact Lin.asym e
      · rw [if_neg e]; exact Lin.irr x
    have hz : DatumOrd.lt z (if DatumOrd.lt z x = true then z else x) = false := by
      by_cases e : DatumOrd.lt z x = true
      · rw [if_pos e]; exact Lin.irr z
      · rw [if_neg e]; exact Bool.eq_false_iff.mpr e
    refine ⟨Lin.le_tr ih.1 hx, fun y hy => ?_⟩
    rcases List.mem_cons.mp hy with rfl | hy
    · exact Lin.le_tr ih.1 hz
    · exact ih.2 y hy
theorem minL_mem [Inhabited α] {xs : List α} (h : xs ≠ []) : minL xs ∈ xs := by
  cases xs with
  | nil => exact absurd rfl h
  | cons x r =>
    rcases minOf_mem r x with e | e
    · show PySem.W.minOf x r ∈ _; rw [e]; exact List.mem_cons_self ..
    · exact List.mem_cons_of_mem _ e
theorem minL_le [Inhabited α] {xs : List α} {y : α} (h : y ∈ xs) : DatumOrd.lt y (minL xs) = false := by
  cases xs with
  | nil => cases h
  | cons x r =>
    rcases List.mem_cons.mp h with rfl | h
    · exact (minOf_le r _).1
    · exact (minOf_le r x).2 y h
end
theorem snocInd {α : Type} {P : List α → Prop} (h0 : P []) (hs : ∀ l x, P l → P (l ++ [x])) (l : List α) : P l := by
  have h : ∀ m : List α, P m.reverse := fun m => by
    induction m with
    | nil => exact h0
    | cons a m ih => rw [List.reverse_cons]; exact hs _ _ ih
  have := h l.reverse
  rwa [List.reverse_reverse] at this
section
variable {κ ν : Type} [DecidableEq κ]
theorem dval_nil (k : κ) : dval ([] : List (κ × ν)) k = none := rfl
theorem dval_cons (p : κ × ν) (d : List (κ × ν)) (k : κ) : dval (p :: d) k = if p.1 = k then some p.2 else dval d k := by
  unfold dval
  rw [List.find?_cons]
  by_cases h : p.1 = k
  · simp [h]
  · simp [h]
theorem dval_mem {d : List (κ × ν)} {k : κ} {v : ν} (h : dval d k = some v) : (k, v) ∈ d := by
  induction d with
  | nil => cases h
  | cons p d ih =>
    rw [dval_cons] at h
    by_cases e : p.1 = k
    · rw [if_pos e] at h; cases h; subst e; exact List.mem_cons_self ..
    · rw [if_neg e] at h; exact List.mem_cons_of_mem _ (ih h)
theorem dhas_iff {d : List (κ × ν)} {k : κ} : dhas d k = true ↔ k ∈ d.map (·.1) := by
  unfold dhas
  induction d with
  | nil => simp [dval_nil]
  | cons p d ih =>
    rw [dval_cons]
    by_cases e : p.1 = k
    · simp [e]
    · rw [if_neg e, ih, List.map_cons, List.mem_cons]
      constructor
      · exact .inr
      · rintro (h | h)
        · exact absurd h.symm e
        · exact h
theorem dput_new {d : List (κ × ν)} {k : κ} {v : ν} (h : k ∉ d.map (·.1)) : dput d k v = d ++ [(k, v)] := by
  unfold dput
  rw [if_neg]
  intro hh
  obtain ⟨p, hp, e⟩ := List.any_eq_true.mp hh
  exact h (of_decide_eq_true e ▸ List.mem_map_of_mem hp)
theorem dput_len {d : List (κ × ν)} {k : κ} {v : ν} : (dput d k v).length ≤ d.length + 1 := by
  unfold dput
  by_cases h : (d.any fun kv => decide (kv.1 = k)) = true
  · rw [if_pos h, List.length_map]; omega
  · rw [if_neg h]; simp
theorem dval_map (d : List (κ × ν)) (k : κ) (v : ν) (j : κ) : dval (d.map fun kv => if kv.1 = k then (kv.1, v) else kv) j = if k = j then (dval d j).map (fun _ => v) else dval d j := by
  induction d with
  | nil => simp [dval_nil]
  | cons p d ih =>
    rw [List.map_cons, dval_cons, dval_cons, ih]
    by_cases e : p.1 = k
    · simp only [e, if_true]
      by_cases ej : k = j <;> simp [ej]
    · simp only [e, if_false]
      by_cases ej : k = j
      · subst ej; simp [e]
      · simp [ej]
theorem dval_app (d e : List (κ × ν)) (j : κ) : dval (d ++ e) j = (dval d j).or (dval e j) := by
  induction d with
  | nil => simp [dval_nil]
  | cons p d ih =>
    rw [List.cons_append, dval_cons, dval_cons, ih]
    by_cases h : p.1 = j <;> simp [h]
theorem dval_none {d : List (κ × ν)} {k : κ} : dval d k = none ↔ k ∉ d.map (·.1) := by
  rw [← dhas_iff, dhas]
  cases dval d k <;> simp
theorem any_key {d : List (κ × ν)} {k : κ} : (d.any fun kv => decide (kv.1 = k)) = true ↔ k ∈ d.map (·.1) := by
  simp [List.any_eq_true]
theorem dval_put (d : List (κ × ν)) (k : κ) (v : ν) (j : κ) : dval (dput d k v) j = if k = j then some v else dval d j := by
  unfold dput
  by_cases h : (d.any fun kv => decide (kv.1 = k)) = true
  · rw [if_pos h, dval_map]
    by_cases ej : k = j
    · subst ej
      have : dval d k ≠ none := fun e => dval_none.mp e (any_key.mp h)
      cases hd : dval d k with
      | none => exact absurd hd this
      | some _ => simp
    · simp [ej]
  · rw [if_neg h, dval_app]
    have hn : dval d k = none := dval_none.mpr fun m => h (any_key.mpr m)
    by_cases ej : k = j
    · subst ej
      rw [hn]
      simp [dval_cons]
    · rw [dval_cons, if_neg ej, if_neg ej, dval_nil]
      cases dval d j <;> rfl
theorem dput_keys (d : List (κ × ν)) (k : κ) (v : ν) : (dput d k v).map (·.1) = if k ∈ d.map (·.1) then d.map (·.1) else d.map (·.1) ++ [k] := by
  unfold dput
  by_cases h : (d.any fun kv => decide (kv.1 = k)) = true
  · rw [if_pos h, if_pos (any_key.mp h), List.map_map]
    apply List.map_congr_left
    intro p _
    show (if p.1 = k then (p.1, v) else p).1 = p.1
    by_cases e : p.1 = k <;> simp [e]
  · rw [if_neg h, if_neg fun m => h (any_key.mpr m), List.map_append]
    rfl
theorem dmerge_cons (d : List (κ × ν)) (p : κ × ν) (r : List (κ × ν)) : dmerge d (p :: r) = dmerge (dput d p.1 p.2) r := rfl
theorem dmerge_new : ∀ (m d : List (κ × ν)), (d.map (·.1) ++ m.map (·.1)).Nodup → dmerge d m = d ++ m
  | [], d, _ => by simp [dmerge]
  | p :: m, d, h => by
    rw [dmerge_cons]
    have hn : p.1 ∉ d.map (·.1) := fun hm => by
      have := List.nodup_append.mp h
      exact this.2.2 _ hm _ (List.mem_cons_self ..) rfl
    rw [dput_new hn, dmerge_new m (d ++ [(p.1, p.2)]) (by simpa [List.map_append, List.append_assoc] using h)]
    simp
end
end Sp
set_option maxHeartbeats 4000000
namespace Sp
open PySem L2
open PySem.W (DatumOrd)
abbrev sg (x : Txt) : List Txt := x.map fun c => [c]
theorem flat_one {ls : Txt} : ∀ {ys : List Txt}, (∀ y ∈ ys, ∃ c ∈ ls, y = [c]) → lenSum ys = ys.length ∧ ys.flatten.length = ys.length ∧ ∀ c ∈ ys.flatten, c ∈ ls
  | [], _ => ⟨rfl, rfl, fun c h => by simp at h⟩
  | y :: ys, h => by
    obtain ⟨c, hc, e⟩ := h y (List.mem_cons_self ..)
    obtain ⟨h1, h2, h3⟩ := flat_one (ys := ys) fun z hz => h z (List.mem_cons_of_mem _ hz)
    subst e
    refine ⟨by rw [lenSum_cons, h1, List.length_cons, List.length_cons, List.length_nil]; omega, by rw [List.flatten_cons, List.length_append, h2, List.length_cons, List.length_cons, List.length_nil]; omega, fun d hd => ?_⟩
    rw [List.flatten_cons, List.mem_append] at hd
    rcases hd with hd | hd
    · rw [List.mem_singleton.mp hd]; exact hc
    · exact h3 d hd
abbrev rng (n : Nat) : List Int := (List.range n).map fun i : Nat => (i : Int)
theorem rng_mem {n : Nat} {x : Int} : x ∈ rng n ↔ 0 ≤ x ∧ x < n := by
  simp only [rng, List.mem_map, List.mem_range]
  exact ⟨fun ⟨a, h1, h2⟩ => by omega, fun ⟨h1, h2⟩ => ⟨x.toNat, by omega, by omega⟩⟩
theorem tn (n : Nat) : ((n : Int)).toNat = n := Int.toNat_natCast n
theorem plc_nat (n k : Nat) : plc n (k : Int) = k := by
  unfold plc
  rw [if_pos (by omega), Int.toNat_natCast]
theorem ixS_nat {x : Txt} {k : Nat} (h : k < x.length) : ixS x (k : Int) = [x[k]] := by
  unfold ixS
  rw [plc_nat, List.getD_eq_getElem?_getD, List.getElem?_eq_getElem h]
  rfl
theorem ixD_nat {α : Type} [Inhabited α] {x : List α} {k : Nat} (h : k < x.length) : ixD x (k : Int) = x[k] := by
  unfold ixD
  rw [plc_nat, List.getD_eq_getElem?_getD, List.getElem?_eq_getElem h]
  rfl
theorem cut_from {α : Type} (x : List α) (k : Nat) : cutD x (some (k : Int)) none = x.drop k := by
  unfold cutD
  rw [HT.sIx_nat, HT.sIx_none]
  by_cases h : k ≤ x.length
  · rw [Nat.min_eq_left h, List.take_of_length_le (by rw [List.length_drop]; omega)]
  · rw [Nat.min_eq_right (by omega), Nat.sub_self, List.take_zero, List.drop_eq_nil_of_le (by omega)]
theorem cut_mid {α : Type} (x : List α) (i j : Nat) : cutD x (some (i : Int)) (some (j : Int)) = (x.drop i).take (j - i) := by
  unfold cutD
  rw [HT.sIx_nat, HT.sIx_nat]
  by_cases h : i ≤ x.length
  · rw [Nat.min_eq_left h]
    by_cases h2 : j ≤ x.length
    · rw [Nat.min_eq_left h2]
    · rw [Nat.min_eq_right (by omega), List.take_of_length_le (by rw [List.length_drop]; omega), List.take_of_length_le (by rw [List.length_drop]; omega)]
  · rw [Nat.min_eq_right (show x.length ≤ i by omega), List.drop_eq_nil_of_le (Nat.le_refl _), List.drop_eq_nil_of_le (by omega), List.take_nil, List.take_nil]
theorem tin_iff {x y : Txt} : tin x y = true ↔ x <:+: y := by
  unfold tin
  have hl : y.length = (toStr y).length := (toStr_len y).symm
  rw [hl, StrLaws.found_iff]
  constructor
  · rintro ⟨i, h1, h2⟩
    rw [StrLaws.subAt_eq] at h2
    have h3 : (y.drop i).take x.length = x := by
      have := beq_iff_eq.mp h2
      rw [toStr_len] at this
      simpa [toStr] using this
    refine ⟨y.take i, (y.drop i).drop x.length, ?_⟩
    conv => rhs; rw [← List.take_append_drop i y]
    rw [List.append_assoc]
    congr 1
    conv => rhs; rw [← List.take_append_drop x.length (y.drop i)]
    rw [h3]
  · rintro ⟨a, b, rfl⟩
    refine ⟨a.length, ?_, ?_⟩
    · rw [toStr_len, toStr_len]; simp
    · rw [StrLaws.subAt_eq, toStr_len]
      apply beq_iff_eq.mpr
      simp [toStr]
theorem tin_one (c : Nat) (y : Txt) : tin [c] y = decide (c ∈ y) := by
  rw [Bool.eq_iff_iff, tin_iff, decide_eq_true_eq]
  constructor
  · rintro ⟨a, b, rfl⟩; simp
  · intro h
    obtain ⟨a, b, rfl⟩ := List.append_of_mem h
    exact ⟨a, b, by simp⟩
section
variable {α : Type} [DecidableEq α] [DatumOrd α] [Lin α]
end
section
variable {α : Type} [DecidableEq α] [DatumOrd α] [Lin α]
theorem llt_irr : ∀ a : List α, PySem.W.listLt a a = false
  | [] => rfl
  | x :: a => by rw [PySem.W.listLt, if_pos rfl, llt_irr a]
theorem llt_tr : ∀ a b c : List α, PySem.W.listLt a b = true → PySem.W.listLt b c = true → PySem.W.listLt a c = true
  | [], [], c, h, _ => by cases h
  | [], _ :: _, [], _, h => by cases h
  | [], _ :: _, _ :: _, _, _ => rfl
  | _ :: _, [], _, h, _ => by cases h
  | _ :: _, _ :: _, [], _, h => by cases h
  | x :: a, y :: b, z :: c, h1, h2 => by
    rw [PySem.W.listLt] at h1 h2 ⊢
    by_cases e1 : x = y
    · rw [if_pos e1] at h1
      by_cases e2 : y = z
      · rw [if_pos e2] at h2; rw [if_pos (e1.trans e2)]; exact llt_tr a b c h1 h2
      · rw [if_neg e2] at h2; rw [if_neg (fun e => e2 (e1.symm.trans e)), e1]; exact h2
    · rw [if_neg e1] at h1
      by_cases e2 : y = z
      · rw [if_neg (fun e => e1 (e.trans e2.symm)), ← e2]; exact h1
      · rw [if_neg e2] at h2
        have h3 := Lin.tr _ _ _ h1 h2
        by_cases e3 : x = z
        · rw [e3, Lin.irr] at h3; cases h3
        · rw [if_neg e3]; exact h3
theorem llt_tot : ∀ a b : List α, PySem.W.listLt a b = false → PySem.W.listLt b a = false → a = b
  | [], [], _, _ => rfl
  | [], _ :: _, h, _ => by cases h
  | _ :: _, [], _, h => by cases h
  | x :: a, y :: b, h1, h2 => by
    rw [PySem.W.listLt] at h1 h2
    by_cases e : x = y
    · rw [if_pos e] at h1
      rw [if_pos e.symm] at h2
      rw [e, llt_tot a b h1 h2]
    · rw [if_neg e] at h1
      rw [if_neg (fun q => e q.symm)] at h2
      exact absurd (Lin.tot _ _ h1 h2) e
instance : Lin (List α) := ⟨llt_irr, llt_tr, llt_tot⟩
end
def uq {α : Type} [DecidableEq α] (l : List α) : List α := l.foldl (fun ks x => if x ∈ ks then ks else ks ++ [x]) []
section
variable {α : Type} [DecidableEq α]
theorem uq_snoc (l : List α) (x : α) : uq (l ++ [x]) = if x ∈ uq l then uq l else uq l ++ [x] := by unfold uq; rw [List.foldl_append]; rfl
theorem uq_mem : ∀ (l : List α) (x : α), x ∈ uq l ↔ x ∈ l := by
  refine snocInd ?_ ?_
  · intro x; simp [uq]
  · intro l y ih x
    rw [uq_snoc]
    by_cases h : y ∈ uq l
    · rw [if_pos h, ih, List.mem_append, List.mem_singleton]
      exact ⟨.inl, fun q => q.elim id fun e => by rw [e, ← ih]; exact h⟩
    · rw [if_neg h, List.mem_append, ih, List.mem_append]
theorem uq_nodup : ∀ l : List α, (uq l).Nodup := by
  refine snocInd ?_ ?_
  · exact List.nodup_nil
  · intro l x ih
    rw [uq_snoc]
    by_cases hx : x ∈ uq l
    · rw [if_pos hx]; exact ih
    · rw [if_neg hx, List.nodup_append]
      exact ⟨ih, by simp, fun a ha b hb e => by rw [List.mem_singleton.mp hb] at e; exact hx (e ▸ ha)⟩
theorem uq_sub : ∀ l : List α, (uq l).Sublist l := by
  refine snocInd ?_ ?_
  · exact List.Sublist.refl _
  · intro l x ih
    rw [uq_snoc]
    by_cases hx : x ∈ uq l
    · rw [if_pos hx]; exact ih.trans (List.sublist_append_left _ _)
    · rw [if_neg hx]; exact ih.append (List.Sublist.refl _)
end
end Sp
set_option maxHeartbeats 4000000
namespace Sp
open PySem L2
open PySem.W (DatumOrd)
theorem sl {n : Nat} (h : n ≤ 1000000) : n ≤ sizeLine := Nat.le_trans h (by decide)
section
variable {κ ν : Type} [DecidableEq κ]
theorem dm_keys (v : κ → ν) (ws : List κ) : ∀ d : List (κ × ν), (dmerge d (ws.map fun x => (x, v x))).map (·.1) = ws.foldl (fun ks x => if x ∈ ks then ks else ks ++ [x]) (d.map (·.1)) := by
  induction ws with
  | nil => intro d; rfl
  | cons x r ih =>
    intro d
    rw [List.map_cons, dmerge_cons, ih, dput_keys, List.foldl_cons]
theorem keys_uq (v : κ → ν) (ws : List κ) : (dmerge [] (ws.map fun x => (x, v x))).map (·.1) = uq ws := dm_keys v ws []
theorem uq_len (l : List κ) : (uq l).length ≤ l.length := (uq_sub l).length_le
theorem nodup_perm {l m : List κ} (h1 : l.Nodup) (h2 : m.Nodup) (h : ∀ x, x ∈ l ↔ x ∈ m) : l.Perm m := (List.perm_ext_iff_of_nodup h1 h2).mpr h
end
section
variable {α : Type} [DecidableEq α] [DatumOrd α] [Lin α]
theorem srt_nodup {l : List α} (h : l.Nodup) : (srt l).Nodup := (srt_perm l).nodup_iff.mpr h
end
theorem forL {α Z : Type} {xs : List α} {z0 : Z} {body : α → Z → (Z → Prop) → Prop} {rest : Z → Prop} (P : List α → Z → Prop) (h0 : P [] z0)
    (hs : ∀ l x r z, xs = l ++ x :: r → P l z → ∀ k : Z → Prop, (∀ z', P (l ++ [x]) z' → k z') → body x z k) (he : ∀ z, P xs z → rest z) : forW xs z0 body rest := by
  refine ⟨fun i z => P (xs.take i) z, by simpa using h0, fun i y z hy hp => ?_, fun z hp => he z ?_⟩
  · obtain ⟨hlt, hy2⟩ := List.getElem?_eq_some_iff.mp hy
    have hxs : xs = xs.take i ++ y :: xs.drop (i + 1) := by
      conv => lhs; rw [← List.take_append_drop i xs]
      rw [List.drop_eq_getElem_cons hlt, hy2]
    exact hs (xs.take i) y (xs.drop (i + 1)) z hxs hp (fun z' => P (xs.take (i + 1)) z') (fun z' h => by
      rw [List.take_add_one, hy]; exact h)
  · have hp2 : P (xs.take xs.length) z := hp
    rw [List.take_length] at hp2
    exact hp2
theorem enumD_len {α : Type} (xs : List α) : (enumD xs).length = xs.length := by unfold enumD; rw [List.length_mapIdx]
theorem enumD_mem {α : Type} {xs : List α} {p : Int × α} (h : p ∈ enumD xs) : ∃ k : Nat, ∃ hk : k < xs.length, p.1 = k ∧ p.2 = xs[k] := by
  unfold enumD at h
  obtain ⟨k, hk, e⟩ := List.getElem_of_mem h
  rw [List.length_mapIdx] at hk
  rw [List.getElem_mapIdx] at e
  exact ⟨k, hk, by rw [← e], by rw [← e]⟩
theorem enumD_map {α β : Type} [Inhabited α] (xs : List α) (f : Int → α → β) : (enumD xs).map (fun p => f p.1 p.2) = (rng xs.length).map fun k => f k (ixD xs k) := by
  apply List.ext_getElem?
  intro i
  unfold enumD rng
  rw [List.getElem?_map, List.getElem?_mapIdx, List.getElem?_map, List.getElem?_map]
  by_cases h : i < xs.length
  · rw [List.getElem?_eq_getElem h, List.getElem?_range h]
    show some (f i xs[i]) = some (f i (ixD xs (i : Int)))
    rw [ixD_nat h]
  · rw [List.getElem?_eq_none (by omega), List.getElem?_eq_none (by simpa using h)]
    rfl
end Sp
set_option maxHeartbeats 4000000
namespace Sp
open PySem L2
open PySem.W (Datum DatumOrd SomeDatum)
abbrev TgD.q {α β γ δ : Type} (a : TgD α) (b : TgD β) (c : TgD γ) (d : TgD δ) : TgD (T4 α β γ δ) := ⟨fun K => gTup K 4 (gCons (a.g K) (gCons (b.g K) (gCons (c.g K) (gCons (d.g K) gNil)))), a.ws ++ (b.ws ++ (c.ws ++ d.ws)), fun v ρ => d.f v.d (c.f v.c (b.f v.b (a.f v.a ρ)))⟩
section
variable {Y : DX} {s : DSt} {e a : Expr} {es : List Expr} {pos p : Pos} {α β γ δ : Type} [Enc α] [Enc β] [Enc γ] [Enc δ] {Q : Pv → DSt → Prop}
end
end Sp
set_option maxHeartbeats 4000000
namespace Sp
open PySem L2
open PySem.W (Datum DatumOrd SomeDatum)
structure WIt (X : Cx) (tg iter : Expr) (σ : St) (H : Hp) (R : It → Hp → Prop) : Prop where
  run : ∀ (pins : List (Addr × Obj)) (s : Shared), Inv X pins σ H s → wpAny (model X.prog X.w) X.A (eval iter X.env) (fun v s1 => wpAny (model X.prog X.w) X.A (pyIter v) (PIE X pins σ tg R) X.xe s1) X.xe s
theorem WIt.of {X : Cx} {tg iter : Expr} {wi : TI} {σ : St} {H : Hp} {R : It → Hp → Prop} (p : PI X tg iter wi) (h : wi σ H R) : WIt X tg iter σ H R := ⟨fun pins s I => p.run pins s σ H R I h⟩
def tot2 {β γ α : Type} (c : β → Bool) (inner : β → List γ) (c1 : β → γ → Bool) (h : β → γ → α) (items : List β) : List α := (items.filter c).flatMap fun x => ((inner x).filter (c1 x)).map (h x)
section
variable {β γ α : Type} {c : β → Bool} {inner : β → List γ} {c1 : β → γ → Bool} {h : β → γ → α}
theorem tot2_app (xs ys : List β) : tot2 c inner c1 h (xs ++ ys) = tot2 c inner c1 h xs ++ tot2 c inner c1 h ys := by simp [tot2]
theorem tot2_one (x : β) : tot2 c inner c1 h [x] = if c x = true then ((inner x).filter (c1 x)).map (h x) else [] := by
  unfold tot2
  by_cases e : c x = true <;> simp [e]
theorem tot2_at {items : List β} {i : Nat} {x : β} (hx : items[i]? = some x) : tot2 c inner c1 h (items.take (i + 1)) = tot2 c inner c1 h (items.take i) ++ tot2 c inner c1 h [x] ∧ (tot2 c inner c1 h (items.take i)).length + (tot2 c inner c1 h [x]).length ≤ (tot2 c inner c1 h items).length := by
  obtain ⟨hlt, hy2⟩ := List.getElem?_eq_some_iff.mp hx
  have e1 : items.take (i + 1) = items.take i ++ [x] := by rw [List.take_add_one, hx]; rfl
  have e2 : items = items.take (i + 1) ++ items.drop (i + 1) := (List.take_append_drop _ _).symm
  refine ⟨by rw [e1, tot2_app], ?_⟩
  conv => rhs; rw [e2, e1, tot2_app, tot2_app]
  rw [List.length_append, List.length_append]
  omega
theorem tin_at {zs : List γ} {p : γ → Bool} {f : γ → α} {j : Nat} {y : γ} (hy : zs[j]? = some y) : ((zs.take (j + 1)).filter p).map f = ((zs.take j).filter p).map f ++ (if p y = true then [f y] else []) ∧ (((zs.take (j + 1)).filter p).map f).length ≤ ((zs.filter p).map f).length := by
  have e1 : zs.take (j + 1) = zs.take j ++ [y] := by rw [List.take_add_one, hy]; rfl
  refine ⟨?_, ?_⟩
  · rw [e1, List.filter_append, List.map_append]
    congr 1
    by_cases e : p y = true <;> simp [e]
  · rw [List.length_map, List.length_map]
    exact ((List.take_sublist (j + 1) zs).filter p).length_le
end
section
variable {Y : DX} {s : DSt} {tg iter tg1 iter1 elt : Expr} {ifs ifs1 : List Expr} {pos spos py p : Pos} {scope : Scope} {α β γ : Type} [Enc α] [Enc β] [Enc γ] {D : DE}
variable {W : (List β → Prop) → Prop} {Wc : β → (Bool → Prop) → Prop} {Wi1 : β → (List γ → Prop) → Prop} {Wc1 : β → γ → (Bool → Prop) → Prop} {We : β → γ → (α → Prop) → Prop}
abbrev tt2 (Y : DX) (scope : Scope) (ifs : List Expr) : TT := fun σ H Q => ∀ z, WTs (blkX Y.X scope z) ifs σ H Q
abbrev wi2 (Y : DX) (scope : Scope) (tg iter : Expr) : TI := fun σ H R => ∀ z, WIt (blkX Y.X scope z) tg iter σ H R
abbrev te2 (Y : DX) (scope : Scope) (elt : Expr) : TE := fun σ H Q => ∀ z, WE (blkX Y.X scope z) elt σ H Q
structure LcW2 (Y : DX) (s : DSt) (scope : Scope) (own : List (Str × Nat)) (vs1 : List Nat) (t : TgD β) (t1 : TgD γ) (tg iter tg1 iter1 elt : Expr) (ifs ifs1 : List Expr) {α : Type} [Enc α] (V : (List α → Prop) → Prop) : Prop where
  bk : BlkOk Y.X.N Y.X.env.scope scope own
  hv : ∀ i ∈ vs1, i ∈ own.map (·.2)
  tgA : ∀ z, TgOk (blkY Y scope z) tg (t.g Y.X.K) t.ws t.f
  tgB : ∀ z, TgOk (blkY Y scope z) tg1 (t1.g Y.X.K) t1.ws t1.f
  hs : ∀ x, foldedSetIterable iter Y.X.env x = pure x
  hs1 : ∀ env x, foldedSetIterable iter1 env x = pure x
  run : ∀ k, V k → ∃ wi, PI Y.X tg iter wi ∧ ∀ F0 σ H F, Ext F0 F → Sta Y s σ H F → ∀ Qf : VK, (∀ D H' F' (ys : List α), Ext F0 F' → Sta Y ⟨s.ρ, (D, lstc ys) :: s.gs⟩ σ H' F' → k ys → Qf (.ref D) H') →
    tLc2 wi (t.g Y.X.K) (tt2 Y scope ifs) (wi2 Y scope tg1 iter1) (t1.g Y.X.K) (tt2 Y scope ifs1) (te2 Y scope elt) (own.map (·.2)) vs1 σ H Qf
theorem w1_asgL2 {t : TgD β} {t1 : TgD γ} {own : List (Str × Nat)} {vs1 : List Nat} {V : (List α → Prop) → Prop} {y : Str} {i : Nat} {k : List α → Prop} (ok : YOk Y) (hy : Y.X.N[i]? = some y) (h : LcW2 Y s scope own vs1 t t1 tg iter tg1 iter1 elt ifs ifs1 V) (w : V k) (hQ : ∀ ys, k ys → D.nx ⟨s.ρ.set i (some (pu ys)), s.gs⟩)
    (hyl : Y.X.env.scope.names.lookup y = some .local := by rfl) (hsw : swapsWith (.ListComp elt [⟨tg, iter, ifs, 0⟩, ⟨tg1, iter1, ifs1, 0⟩] scope pos) (some (.Name y py)) spos.line Y.X.env = pure true := by rfl) : W1 Y s (.Assign [.Name y py] (.ListComp elt [⟨tg, iter, ifs, 0⟩, ⟨tg1, iter1, ifs1, 0⟩] scope pos) spos) D := fun F0 σ H F e0 S => by
  obtain ⟨wi, hp, run⟩ := h.run k w
  have P := ps_setLc2 (pos := pos) (spos := spos) (py := py) ok.calm ok.nd hy hyl hsw hp h.bk h.hv (fun s H C cl fp => (h.tgA ⟨s, H, C, cl, fp⟩).1) (tt := tt2 Y scope ifs) (fun s H C cl fp => ⟨fun pins s' σ H' Q I h => (h ⟨s, H, C, cl, fp⟩).run pins s' I⟩)
    (wi1 := wi2 Y scope tg1 iter1) (fun s H C cl fp => ⟨fun pins s' σ H' R I h => (h ⟨s, H, C, cl, fp⟩).run pins s' I⟩) (fun s H C cl fp => (h.tgB ⟨s, H, C, cl, fp⟩).1) (tt1 := tt2 Y scope ifs1) (fun s H C cl fp => ⟨fun pins s' σ H' Q I h => (h ⟨s, H, C, cl, fp⟩).run pins s' I⟩)
    (te := te2 Y scope elt) (fun s H C cl fp => ⟨fun pins s' σ H' Q I h => (h ⟨s, H, C, cl, fp⟩).run pins s' I⟩) h.hs h.hs1
  refine WP.of P ?_
  show tLc2 wi _ _ _ _ _ _ _ _ σ H (fun x H1 => gName i x σ H1 (D.to Y F0).nx)
  refine run F0 σ H F e0 S _ fun D2 H' F' ys e1 S1 kk => ?_
  obtain ⟨hF, o, ho, hot, vs, ev, rv⟩ := S1.cell (i := 0) (p := D2) (c := lstc ys) rfl
  subst ev
  have S3 := S1.freeze (i := 0) (p := D2) (c := lstc ys) rfl ho
  exact ⟨⟨s.ρ.set i (some (pu ys)), s.gs⟩, upd F' D2 (.lst vs), e1.trans (Ext.grow hF), S3.set (A := pu ys) ⟨D2, vs, rfl, .of upd_same, rv.mono (Ext.grow hF)⟩ i, hQ ys kk⟩
theorem s_asgL2 {t : TgD β} {t1 : TgD γ} {own : List (Str × Nat)} {vs1 : List Nat} {R : List α → Prop} {V : (List α → Prop) → Prop} {sts : List Stmt} {x : Str} (i : Nat) (ok : YOk Y) (hi : Y.X.N[i]? = some x) (h : LcW2 Y s scope own vs1 t t1 tg iter tg1 iter1 elt ifs ifs1 V) (next : ∀ v, R v → Ws Y ⟨s.ρ.set i (some (pu v)), s.gs⟩ sts D) (w : V R)
    (hyl : Y.X.env.scope.names.lookup x = some .local := by rfl) (hsw : swapsWith (.ListComp elt [⟨tg, iter, ifs, 0⟩, ⟨tg1, iter1, ifs1, 0⟩] scope pos) (some (.Name x py)) spos.line Y.X.env = pure true := by rfl) : Ws Y s (.Assign [.Name x py] (.ListComp elt [⟨tg, iter, ifs, 0⟩, ⟨tg1, iter1, ifs1, 0⟩] scope pos) spos :: sts) D :=
  ws_cons (w1_asgL2 ok hi h w (fun ys ky => next ys ky) hyl hsw)
theorem l_lc2 (t : TgD β) (t1 : TgD γ) (own : List (Str × Nat)) (vs1 : List Nat) (ok : YOk Y) (hi : ItC Y s tg iter W) (bk : BlkOk Y.X.N Y.X.env.scope scope own) (tg0 : ∀ z, TgOk (blkY Y scope z) tg (t.g Y.X.K) t.ws t.f) (tg10 : ∀ z, TgOk (blkY Y scope z) tg1 (t1.g Y.X.K) t1.ws t1.f)
    (ht : ∀ z x D ys, EvTs (blkY Y scope z) ⟨t.f x (wipeR s.ρ (own.map (·.2))), (D, lstc (α := α) ys) :: s.gs⟩ ifs (Wc x))
    (hi1 : ∀ z x D ys, ItC (blkY Y scope z) ⟨t.f x (wipeR s.ρ (own.map (·.2))), (D, lstc (α := α) ys) :: s.gs⟩ tg1 iter1 (Wi1 x))
    (ht1 : ∀ z x y D ys, EvTs (blkY Y scope z) ⟨t1.f y (wipeR (t.f x (wipeR s.ρ (own.map (·.2)))) vs1), (D, lstc (α := α) ys) :: s.gs⟩ ifs1 (Wc1 x y))
    (he : ∀ z x y D ys, EvC (blkY Y scope z) ⟨t1.f y (wipeR (t.f x (wipeR s.ρ (own.map (·.2)))) vs1), (D, lstc (α := α) ys) :: s.gs⟩ elt (We x y))
    (sub : ∀ j ∈ t.ws, j ∈ own.map (·.2) := by decide) (sub1 : ∀ j ∈ t1.ws, j ∈ vs1 := by decide) (hv : ∀ i ∈ vs1, i ∈ own.map (·.2) := by decide) (hs : ∀ x, foldedSetIterable iter Y.X.env x = pure x := by intro _; rfl) (hs1 : ∀ env x, foldedSetIterable iter1 env x = pure x := by intro _ _; rfl) :
    LcW2 Y s scope own vs1 t t1 tg iter tg1 iter1 elt ifs ifs1 fun k => W fun items => ∃ (c : β → Bool) (inner : β → List γ) (c1 : β → γ → Bool) (h : β → γ → α), (∀ x ∈ items, Wc x fun b => b = c x) ∧ (∀ x ∈ items, c x = true → Wi1 x fun zs => zs = inner x) ∧
      (∀ x ∈ items, c x = true → ∀ y ∈ inner x, Wc1 x y fun b => b = c1 x y) ∧ (∀ x ∈ items, c x = true → ∀ y ∈ inner x, c1 x y = true → We x y fun v => v = h x y) ∧ (tot2 c inner c1 h items).length ≤ sizeLine ∧ k (tot2 c inner c1 h items) := by
  refine ⟨bk, hv, tg0, tg10, hs, hs1, fun k w => ?_⟩
  obtain ⟨wi, hp, hw⟩ := hi _ w
  refine ⟨wi, hp, fun F0 σ H F e0 S Qf hQ => ?_⟩
  refine hw F0 σ H F _ e0 S fun J H1 F1 items s' e1 S1 K1 ⟨es, c, inner, c1, h, q1, q2, q3, q4, q5, q6⟩ => ?_
  subst es
  intro D hD
  have S1' := S1.newO (o := .lst []) (c := lstc ([] : List α)) hD rfl ⟨[], rfl, .nil⟩
  refine ⟨fun i m H => m = items.length - i ∧ i ≤ items.length ∧ ∃ F2, Ext F1 F2 ∧ Sta Y ⟨s'.ρ, (D, lstc (tot2 c inner c1 h (items.take i))) :: s'.gs⟩ σ H F2, ⟨items.length, rfl, Nat.zero_le _, F1, .refl _, S1'⟩, ?_⟩
  rintro i m H2 ⟨rfl, hi, F2, e2, S2⟩
  by_cases hlt : i < items.length
  · have hx : items[i]? = some items[i] := List.getElem?_eq_getElem hlt
    generalize items[i] = x at hx
    have hm : x ∈ items := List.mem_of_getElem? hx
    obtain ⟨ta, tb⟩ := tot2_at (c := c) (inner := inner) (c1 := c1) (h := h) hx
    rw [tot2_one] at ta tb
    refine .inr ⟨((K1 i H2 F2 e2 S2.ext).1 _ hx).1, fun H' => ∃ F3, Ext F1 F3 ∧ Sta Y ⟨s'.ρ, (D, lstc (tot2 c inner c1 h (items.take (i + 1)))) :: s'.gs⟩ σ H' F3, fun H' ⟨F3, e3, S3⟩ => ⟨items.length - (i + 1), by omega, rfl, hlt, F3, e3, S3⟩, fun v H3 y => ?_⟩
    obtain ⟨F3, e3, S3, r3⟩ := K1.yld e2 S2 hx y
    have e13 := e2.trans e3
    let z0 : BCx := ⟨Y.X.s_0, H, 0, [], []⟩
    refine (tg0 z0).2 (L2.wipe σ (own.map (·.2))) H3 F3 v _ ⟨wipeR s'.ρ (own.map (·.2)), (D, lstc (tot2 c inner c1 h (items.take i))) :: s'.gs⟩ _ (S3.wipe _).blk r3 fun σ4 S4 o4 => ?_
    refine ⟨wipe_only o4 sub, ?_⟩
    have S4' := S4.unblk
    intro z
    refine ((ht z x D _) _ (q1 x hm) F3 σ4 H3 F3 (.refl _) S4'.blk).mono fun b H4 ⟨s5, F5, e5, S5, es5, eb⟩ => ?_
    subst es5 eb
    have S5' := S5.unblk
    cases hc : c x with
    | false =>
      rw [hc, if_neg Bool.false_ne_true, List.append_nil] at ta
      rw [if_neg Bool.false_ne_true]
      refine ⟨F5, e13.trans e5, ?_⟩
      rw [ta]
      exact S3.names S5' e5
    | true =>
      rw [hc, if_pos rfl] at ta tb
      rw [if_pos rfl]
      intro z1
      obtain ⟨wi', hp', hw'⟩ := hi1 z1 x D (tot2 c inner c1 h (items.take i)) _ (q2 x hm hc)
      refine .of hp' (hw' F5 σ4 H4 F5 _ (.refl _) S5'.blk fun J1 H5 F6 zs s6 e6 S6 K6 ⟨es6, ez⟩ => ?_)
      subst es6 ez
      have S6' := S6.unblk
      refine ⟨fun j k H => k = (inner x).length - j ∧ j ≤ (inner x).length ∧ ∃ F7, Ext F6 F7 ∧ Sta Y ⟨t.f x (wipeR s'.ρ (own.map (·.2))), (D, lstc (tot2 c inner c1 h (items.take i) ++ (((inner x).take j).filter (c1 x)).map (h x))) :: s'.gs⟩ σ4 H F7, ⟨(inner x).length, rfl, Nat.zero_le _, F6, .refl _, ?_⟩, ?_⟩
      · rw [List.take_zero, List.filter_nil, List.map_nil, List.append_nil]
        exact S6'
      rintro j n H7 ⟨rfl, hj, F7, e7, S7⟩
      by_cases hlj : j < (inner x).length
      · have hy : (inner x)[j]? = some (inner x)[j] := List.getElem?_eq_getElem hlj
        generalize (inner x)[j] = u at hy
        have hmu : u ∈ inner x := List.mem_of_getElem? hy
        obtain ⟨ua, ub⟩ := tin_at (p := c1 x) (f := h x) hy
        refine .inr ⟨((K6 j H7 F7 e7 S7.ext).1 _ hy).1, fun H' => ∃ F8, Ext F6 F8 ∧ Sta Y ⟨t.f x (wipeR s'.ρ (own.map (·.2))), (D, lstc (tot2 c inner c1 h (items.take i) ++ (((inner x).take (j + 1)).filter (c1 x)).map (h x))) :: s'.gs⟩ σ4 H' F8, fun H' ⟨F8, e8, S8⟩ => ⟨(inner x).length - (j + 1), by omega, rfl, hlj, F8, e8, S8⟩, fun v2 H8 y2 => ?_⟩
        obtain ⟨F8, e8, S8, r8⟩ := K6.yld e7 S7.blk hy y2
        have S8 := S8.unblk
        have e68 := e7.trans e8
        refine (tg10 z0).2 (L2.wipe σ4 vs1) H8 F8 v2 _ ⟨wipeR (t.f x (wipeR s'.ρ (own.map (·.2)))) vs1, (D, lstc (tot2 c inner c1 h (items.take i) ++ (((inner x).take j).filter (c1 x)).map (h x))) :: s'.gs⟩ _ (S8.wipe _).blk r8 fun σ9 S9 o9 => ?_
        refine ⟨wipe_only o9 sub1, ?_⟩
        have S9' := S9.unblk
        intro z2
        refine ((ht1 z2 x u D _) _ (q3 x hm hc u hmu) F8 σ9 H8 F8 (.refl _) S9'.blk).mono fun b H10 ⟨s10, F10, e10, S10, es10, eb10⟩ => ?_
        subst es10 eb10
        have S10' := S10.unblk
        cases hc1 : c1 x u with
        | false =>
          rw [hc1, if_neg Bool.false_ne_true, List.append_nil] at ua
          rw [if_neg Bool.false_ne_true]
          refine ⟨F10, e68.trans e10, ?_⟩
          rw [ua]
          exact S8.names S10' e10
        | true =>
          rw [hc1, if_pos rfl] at ua
          rw [if_pos rfl]
          intro z3
          refine ((he z3 x u D _) _ (q4 x hm hc u hmu hc1) F10 σ9 H10 F10 (.refl _) S10'.blk).mono fun w2 H11 ⟨A, s11, F11, e11, r11, S11, val, ea, es11, ev⟩ => ?_
          subst ea es11 ev
          have S12 := S8.names S11.unblk (e10.trans e11)
          obtain ⟨hF, o, ho, hot, vs, ev, rv⟩ := S12.cell (i := 0) (p := D) (c := lstc (tot2 c inner c1 h (items.take i) ++ (((inner x).take j).filter (c1 x)).map (h x))) rfl
          subst ev
          refine ⟨vs, ho, ?_, F11, (e68.trans e10).trans e11, ?_⟩
          · rw [rv.length, List.length_append]
            rw [ua, List.length_append, List.length_singleton] at ub
            omega
          · rw [ua, ← List.append_assoc]
            exact S12.write (i := 0) (c' := lstc ((tot2 c inner c1 h (items.take i) ++ (((inner x).take j).filter (c1 x)).map (h x)) ++ [h x u])) (o' := .lst (vs ++ [w2])) rfl ho (fun φ => by intro z; cases z) rfl ⟨_, rfl, rv.snoc r11⟩
      · have e : j = (inner x).length := by omega
        subst e
        refine .inl ⟨(K6 _ H7 F7 e7 S7.ext).2 (Nat.le_refl _), F7, ((e13.trans e5).trans e6).trans e7, ?_⟩
        rw [List.take_length] at S7
        rw [ta]
        exact S3.names S7 ((e5.trans e6).trans e7)
  · have e : i = items.length := by omega
    subst e
    rw [List.take_length] at S2
    exact .inl ⟨(K1 _ H2 F2 e2 S2.ext).2 (Nat.le_refl _), hQ D H2 F2 _ (e1.trans e2) S2 q6⟩
end
end Sp
set_option maxHeartbeats 4000000
namespace Sp
open PySem L2 PySem.Spec
open PySem.W (Datum DatumOrd SomeDatum)
def entT (e : DictEntry) : Option (Str × Str) := match e.key, e.val with
  | .str k _, .str v _ => some (k, v)
  | _, _ => none
def tabB (K : Frag) (d : Addr) (tab : List (Str × Str)) : Bool := match K.lookup d with
  | some ⟨_, _, .dict es _, _⟩ => decide (es.toList.map entT = tab.map some)
  | _ => false
abbrev TabT : Type := List (Str × Str)
structure KTab (K : Frag) (w : World) (mg : Str → Option Value) (x : Str) (tab : TabT) : Prop where
  at_ : ∃ d es n, mg x = some (.ref d) ∧ KDict K w d es n ∧ tabB K d tab = true
section
variable {Y : DX} {s : DSt} {e f : Expr} {p apos pos : Pos} {x : Str} {tab : TabT} {Wk Wv : (List Nat → Prop) → Prop}
theorem RelV.str {v : Str} {u : Value} (h : RelV (.str v) u) : ∃ t, u = .str v t := h
end
end Sp
set_option maxHeartbeats 4000000
namespace Sp
open PySem L2
open PySem.W (Datum DatumOrd SomeDatum)
section
variable {Y : DX} {s : DSt} {tg iter : Expr} {D : DE} {sts : List Stmt} {pos : Pos} {β Z J : Type} [Enc β]
end
end Sp
set_option maxHeartbeats 4000000
namespace Sp
open PySem L2
open PySem.W (Datum DatumOrd SomeDatum)
section
variable {Y : DX} {s : DSt} {tg iter elt a b : Expr} {elts ifs : List Expr} {pos spos py p p2 tpos : Pos} {kk : Nat} {scope : Scope} {α β γ : Type} [Enc α] [Enc β] [Enc γ] {D : DE} {sts : List Stmt} {x : Str}
structure LcWO (Y : DX) (s : DSt) (scope : Scope) (own : List (Str × Nat)) (t : TgD β) (tg iter elt : Expr) (ifs : List Expr) {α : Type} [Enc α] (V : (List α → Prop) → Prop) : Prop where
  bk : BlkOk Y.X.N Y.X.env.scope scope own
  tgA : ∀ z, TgOk (blkY Y scope z) tg (t.g Y.X.K) t.ws t.f
  hs : ∀ x, foldedSetIterable iter Y.X.env x = pure x
  run : ∀ k, V k → ∃ wi, PI Y.X tg iter wi ∧ ∀ F0 σ H F, Ext F0 F → Sta Y s σ H F → ∀ Qf : VK, (∀ D H' F' (ys : List α), Ext F0 F' → Sta Y ⟨s.ρ, (D, lstc ys) :: s.gs⟩ σ H' F' → k ys → Qf (.ref D) H') →
    tLc wi (t.g Y.X.K) (tt2 Y scope ifs) (te2 Y scope elt) (own.map (·.2)) σ H Qf
end
end Sp
set_option maxHeartbeats 4000000
namespace Sp
open PySem L2 PySem.Calls PyProof.Rows
open PySem.W (Datum DatumOrd SomeDatum KeepsBut EachIs AllAlike Sortable KeyedOut SortsAt)
def dropH (h : Heap) (a : Addr) : Heap := h.update a fun _ => ⟨.none, none, .freed, #[]⟩
theorem dropH_at (h : Heap) (a : Addr) : (dropH h a).get? a = none := by
  unfold dropH Heap.get?
  rw [Heap.objs_update_self]
  cases h.objs[a]? <;> rfl
theorem dropH_ne (h : Heap) {a b : Addr} (e : b ≠ a) : (dropH h a).get? b = h.get? b := (Heap.SameBut.update h a _).2 b e
section
variable {prog : Program} {w : World} {A : Around} {E : Value → Shared → Prop} {s : Shared} {vs : List Value} {kz : List PyData} {f : Value} {a : Addr} {n : Nat} {P : PySem.Fin → Shared → Prop}
theorem sk_tree {J : Nat → List Value → Shared → Prop} (ho : s.heap.get? a = some (seqObj "list" vs.toArray n)) (hlen : kz.length = vs.length) (hZ : vs.length ≤ sizeLine) (hal : AllAlike kz) (hsk : Sortable kz) (hu : ∀ d, d ∈ kz → A.units + d.depth < cLine)
    (h0 : ∀ h1 : Heap, (∀ b o, b ≠ a → s.heap.get? b = some o → h1.get? b = some o) → (∃ e, h1.get? a = some (seqObj "list" #[] e)) → h1.get? (s.heap.objs.size + 1) = some (seqObj "list" #[] 0) → J 0 [] { s with heap := h1 })
    (turn : ∀ (i : Nat) (v : Value) (kA : List Value) (s1 : Shared) (e e1 : Nat), vs[i]? = some v → kA.length ≤ vs.length → J i kA s1 → s1.heap.get? (s.heap.objs.size + 1) = some (seqObj "list" kA.toArray e) → s1.heap.get? a = some (seqObj "list" #[] e1) →
      wpAny (model prog w) A (call f [v]) (fun k s2 => s2.heap.get? (s.heap.objs.size + 1) = some (seqObj "list" kA.toArray e) ∧ s2.heap.get? a = some (seqObj "list" #[] e1) ∧
        ∀ (h' : Heap), (∀ b o, b ≠ s.heap.objs.size + 1 → s2.heap.get? b = some o → h'.get? b = some o) → (∃ c, h'.get? (s.heap.objs.size + 1) = some (seqObj "list" (kA ++ [k]).toArray c)) → J (i + 1) (kA ++ [k]) { s2 with heap := h' }) (fun _ _ => False) s1)
    (done : ∀ (s1 : Shared) (kA : List Value), J vs.length kA s1 → EachIs (fun v d => ∃ as, Reads s1.heap v d as) kA kz ∧
      ∀ h' tk out c, (∀ b o, b ≠ a → b ≠ s.heap.objs.size + 1 → s1.heap.get? b = some o → h'.get? b = some o) → h'.get? a = some (seqObj "list" (List.toArray out) c) → KeyedOut false kz vs out → P (.done (.ret .none)) { s1 with heap := h', toks := tk }) :
    wpAny (model prog w) A (ksk_tree a f false) P E s := by
  have ha : a < s.heap.objs.size := Heap.lt_size ho
  have ka0 : s.heap.objs.size + 1 ≠ a := Nat.ne_of_gt (Nat.lt_succ_of_lt ha)
  generalize hkS : s.heap.objs.size + 1 = kS at *
  obtain ⟨e1, ho1⟩ : ∃ e1, (s.heap.update a (Obj.mapSeq fun _ => (#[] : Array Value))).get? a = some (seqObj "list" #[] e1) := ⟨_, get?_update_seq ho fun _ => #[]⟩
  have sz1 : ((s.heap.update a (Obj.mapSeq fun _ => (#[] : Array Value))).push (seqObj "tuple" vs.toArray 0)).objs.size = kS := by rw [size_push', Heap.size_update, hkS]
  have ka : kS ≠ a := ka0
  unfold ksk_tree
  refine wpAny_bind (listItems_at ho rfl (wpAny_bind (listUpdate_at ho rfl (wpAny_bind (seqEpoch_at ho1 rfl (wpAny_bind (wpAny_newTuple ?_ (by show vs.length ≤ _; exact hZ))))) (by rw [List.size_toArray]; exact hZ) (Nat.zero_le _))))
  refine wpAny_bind (wpAny_newList (wpAny_holding ?_) (Nat.zero_le _))
  show wpAny _ A (ksk_rest a f false vs.toArray e1 (.ref ((s.heap.update a (Obj.mapSeq fun _ => (#[] : Array Value))).push (seqObj "tuple" vs.toArray 0)).objs.size)) P E { s with heap := ((s.heap.update a (Obj.mapSeq fun _ => (#[] : Array Value))).push (seqObj "tuple" vs.toArray 0)).push (seqObj "list" #[] 0) }
  have g1 : (((s.heap.update a (Obj.mapSeq fun _ => (#[] : Array Value))).push (seqObj "tuple" vs.toArray 0)).push (seqObj "list" #[] 0)).get? a = some (seqObj "list" #[] e1) := Heap.get?_push_of_some _ (Heap.get?_push_of_some _ ho1)
  have g2 : (((s.heap.update a (Obj.mapSeq fun _ => (#[] : Array Value))).push (seqObj "tuple" vs.toArray 0)).push (seqObj "list" #[] 0)).get? kS = some (seqObj "list" #[] 0) := by rw [← sz1]; exact Heap.get?_push_size _ rfl
  have g3 : ∀ b o, b ≠ a → s.heap.get? b = some o → (((s.heap.update a (Obj.mapSeq fun _ => (#[] : Array Value))).push (seqObj "tuple" vs.toArray 0)).push (seqObj "list" #[] 0)).get? b = some o := fun b o hb q =>
    Heap.get?_push_of_some _ (Heap.get?_push_of_some _ (((Heap.SameBut.update s.heap a _).2 b hb).trans q))
  rw [sz1]
  generalize ((s.heap.update a (Obj.mapSeq fun _ => (#[] : Array Value))).push (seqObj "tuple" vs.toArray 0)).push (seqObj "list" #[] 0) = hh at *
  have j0 := h0 hh g3 ⟨e1, g1⟩ g2
  unfold ksk_rest
  refine wpAny_bind (wpAny_rule ?_)
  rw [List.forIn_toArray]
  refine wpAny_bind (ksk_fold (fun i s1 => ∃ kA e, kA.length = i ∧ J i kA s1 ∧ s1.heap.get? kS = some (seqObj "list" (List.toArray kA) e) ∧ s1.heap.get? a = some (seqObj "list" #[] e1)) vs 0 _ ⟨[], 0, rfl, j0, g2, g1⟩ (fun j x s1 hx q => ?_) fun s1 q => ?_)
  · rw [Nat.zero_add] at q ⊢
    obtain ⟨kA, e, hl, jj, q1, q2⟩ := q
    have hj : j < vs.length := (List.getElem?_eq_some_iff.mp hx).1
    refine wpAny_bind (wpAny_attempt (wpAny_mono (turn j x kA s1 e e1 hx (by omega) jj q1 q2) (fun v s2 ⟨p1, p2, p3⟩ => ?_) fun _ _ z => z.elim))
    have sb := Heap.SameBut.update s2.heap kS (Obj.mapSeq (·.push v))
    obtain ⟨c2, hc2⟩ : ∃ c2, (s2.heap.update kS (Obj.mapSeq (·.push v))).get? kS = some (seqObj "list" ((List.toArray kA).push v) c2) := ⟨_, get?_update_seq p1 (·.push v)⟩
    have ep : (List.toArray kA).push v = List.toArray (kA ++ [v]) := by simp
    rw [ep] at hc2
    refine wpAny_bind (listUpdate_at p1 rfl (wpAny_pure ⟨rfl, kA ++ [v], c2, by rw [List.length_append, hl]; rfl, p3 _ (fun b o hb z => (sb.2 b hb).trans z) ⟨c2, hc2⟩, hc2, (sb.2 a ka.symm).trans p2⟩) (by rw [List.size_toArray]; omega) (by rw [Array.size_push, List.size_toArray]; omega))
  · rw [Nat.zero_add] at q
    obtain ⟨kA, e, hl, jj, q1, q2⟩ := q
    obtain ⟨d1, d2⟩ := done s1 kA jj
    refine wpAny_bind (listItems_at q1 rfl ?_)
    refine PySem.W.keyH_end (κ := PySem.W.dataKind s1.heap kz) (h₁ := dropH s1.heap kS) (fun b o hb z => ?_) (dropH_at _ _) q1 q2 ka (SortsAt.data (s := s1) d1 hal hsk hu) (by rw [List.size_toArray, hl]) hZ fun h' tk c k3 n3 => d2 h' tk _ c (fun b o hb hb2 z => k3 b o hb (by rw [dropH_ne _ hb2]; exact z)) n3 ⟨s1.heap, kA, hal, rfl, d1⟩
    rwa [dropH_ne _ (fun e => by rw [e, dropH_at] at z; cases z)] at z
end
end Sp
set_option maxHeartbeats 4000000
namespace Sp
open PySem L2 PySem.Calls PyProof.Rows
open PySem.W (Datum DatumOrd SomeDatum)
structure ParOk (N : List Str) (sc scope : Scope) (vs : List Nat) (i : Nat) (x : Str) : Prop where
  kind : scope.kind = .function
  co : scope.isCoroutine = false
  gen : scope.isGenerator = false
  noc : ∀ y ∈ scope.names, y.2 ≠ .cell
  par : scope.names.lookup x = some .local
  at_ : N[i]? = some x
  free : ∀ y ∈ scope.names, y.2 = .free → sc.names.lookup y.1 = some .cell ∨ sc.names.lookup y.1 = some .free
  own : ∀ (j : Nat) (y : Str), N[j]? = some y → scope.names.lookup y = some .local → j ∈ vs
def parOkB (N : List Str) (sc scope : Scope) (vs : List Nat) (i : Nat) (x : Str) : Bool :=
  decide (scope.kind = .function) && !scope.isCoroutine && !scope.isGenerator && (scope.names.all fun y => !decide (y.2 = .cell) && (!decide (y.2 = .free) || decide (sc.names.lookup y.1 = some .cell) || decide (sc.names.lookup y.1 = some .free))) &&
    decide (scope.names.lookup x = some NameKind.local) && decide (N[i]? = some x) && ((List.range N.length).all fun j => decide (j ∈ vs) || !decide (scope.names.lookup (N.getD j "") = some NameKind.local))
theorem parOk_by {N : List Str} {sc scope : Scope} {vs : List Nat} {i : Nat} {x : Str} (h : parOkB N sc scope vs i x = true) : ParOk N sc scope vs i x := by
  unfold parOkB at h
  simp only [Bool.and_eq_true, Bool.or_eq_true, Bool.not_eq_true', decide_eq_true_eq, decide_eq_false_iff_not, List.all_eq_true] at h
  obtain ⟨⟨⟨⟨⟨⟨h1, h2⟩, h3⟩, h4⟩, h5⟩, h6⟩, h7⟩ := h
  refine ⟨h1, h2, h3, fun y hy => (h4 y hy).1, h5, h6, fun y hy e => ?_, fun j y hj hl => ?_⟩
  · rcases (h4 y hy).2 with (z | z) | z
    · exact absurd e z
    · exact .inl z
    · exact .inr z
  · obtain ⟨hl', e⟩ := List.getElem?_eq_some_iff.mp hj
    rcases h7 j (List.mem_range.mpr hl') with z | z
    · exact z
    · rw [List.getD_eq_getElem?_getD, hj] at z
      exact absurd hl z
structure LCx where
  A : Around
  s : Shared
  H : Hp
  f : Addr
  c : Addr
abbrev lamE (X : Cx) (scope : Scope) (z : LCx) : Env := LamX.lamEnv X scope z.s.heap.objs.size z.f z.c
def lamK (X : Cx) (scope : Scope) (z : LCx) : Cx where
  prog := X.prog
  w := X.w
  K := X.K
  mg := X.mg
  base := X.base
  A := z.A
  N := X.N
  s_0 := z.s
  H_0 := z.H
  env := lamE X scope z
  outer := X.stack
  stack := lamE X scope z :: X.stack
  ex := []
  fn := fun _ => false
  calm := true
  pn := []
  xe := fun _ _ => False
section
variable {X : Cx} {pins : List (Addr × Obj)} {σ : L2.St} {H : Hp} {s : Shared}
theorem par_start {A : Around} {scope : Scope} {vs : List Nat} {i : Nat} {x : Str} {f c : Addr} {v : V} {u : Value} {h₁ : Heap} {tk : Nat} (I : Inv X pins σ H s) (G : ParOk X.N X.env.scope scope vs i x) (hv : i ∈ vs) (hA : A.frames = some (lamE X scope ⟨A, s, H, f, c⟩ :: X.stack)) (hd : A.handled = none)
    (hn : h₁.Ns s.heap.objs.size fun y => ([(x, u)] : List (Str × Value)).reverse.lookup y) (kp : ∀ b o, s.heap.get? b = some o → h₁.get? b = some o) (r : RelV v u) (hnd : X.N.Nodup) :
    Inv (lamK X scope ⟨A, s, H, f, c⟩) [] ((L2.wipe σ vs).set i (some v)) H { s with heap := h₁, toks := tk } := by
  have has : ∀ y ∈ scope.names, y.2 = .free → ∃ c, X.env.cells.lookup y.1 = some c := fun y hy e => by
    rcases G.free y hy e with k | k
    · exact I.ok.has _ (.inl k)
    · exact I.ok.has _ (.inr k)
  have cm : ∀ {y c}, (cloFrom X.env.cells scope.names []).lookup y = some c → X.env.cells.lookup y = some c := fun {y c} e => by
    rcases cloFrom_mem (PySem.mem_of_lookup e) with hm | ⟨h1, h2⟩
    · cases hm
    · obtain ⟨c1, hc⟩ := has _ h1 rfl
      have hc : X.env.cells.lookup y = some c1 := hc
      rw [hc, show c = c1 by rw [h2, hc] <;> rfl]
  have look : ∀ {y}, scope.names.lookup y = some .free → ∃ c, (cloFrom X.env.cells scope.names []).lookup y = some c := fun {y} hl =>
    mem_lookup (cloFrom_has (cells := X.env.cells) (acc := []) (PySem.mem_of_lookup hl))
  have isc : ∀ {c : Addr} {v : Option Value}, s.heap.IsCell c v → h₁.IsCell c v := fun {c v} ⟨o, ho, hd⟩ => ⟨o, kp _ _ ho, hd⟩
  have noA : ∀ b : Addr, b ∉ (lamK X scope ⟨A, s, H, f, c⟩).ex := fun b z => nomatch (show b ∈ ([] : List Addr) from z)
  refine ⟨⟨I.ok.mod, G.kind, rfl, rfl, Nat.le_refl _, fun y z c e1 e2 => I.ok.inj y z c (cm e1) (cm e2), fun y hy => ?_, fun y c z _ => ?_, fun _ => hd, hA, .inr ⟨rfl, rfl⟩, fun b z => absurd z (noA b), I.bs, Nat.le_trans I.ok.bsz I.sz, fun b _ _ => noA b, fun b z => absurd z (noA b), I.stack, I.stkFree⟩,
    rfl, I.bare, Un.kept kp, ⟨_, hn, fun j y w e1 e2 e3 => ?_⟩, fun y c e => ?_, I.hok.fresh (Nat.le_refl _), fun y c e => ?_, fun q hq => (nomatch (show q ∈ ([] : List (Addr × Obj)) from hq)), I.hok.kept kp, by rw [List.length_set, wipe_length]; exact I.len⟩
  · have hy : scope.names.lookup y = some .cell ∨ scope.names.lookup y = some .free := hy
    rcases hy with hy | hy
    · exact absurd rfl (G.noc _ (PySem.mem_of_lookup hy))
    · exact look hy
  · have z : false = true := z
    cases z
  · have e3 : Vis scope y := e3
    by_cases hj : j = i
    · subst hj
      have ey : y = x := Option.some.inj (e1.symm.trans G.at_)
      subst ey
      rw [List.getElem?_set_self (by rw [wipe_length, I.len]; exact (List.getElem?_eq_some_iff.mp e1).1)] at e2
      have ew : v = w := by cases e2; rfl
      subst ew
      refine ⟨u, r, .inl ⟨G.par, ?_⟩⟩
      simp
    · rw [List.getElem?_set_ne (fun z => hj z.symm)] at e2
      obtain ⟨w1, w2⟩ := wipe_some e2
      rcases e3 with k | k | k
      · exact absurd (G.own j y e1 k) w2
      · exact absurd rfl (G.noc _ (PySem.mem_of_lookup k))
      · obtain ⟨m, hn', hl⟩ := I.loc
        have hvis : Vis X.env.scope y := (G.free _ (PySem.mem_of_lookup k) rfl).elim (fun k => .inr (.inl k)) (fun k => .inr (.inr k))
        obtain ⟨w', r', q⟩ := hl j y w e1 w1 hvis
        obtain ⟨c2, h2⟩ := look k
        refine ⟨w', r', .inr ⟨.inr k, c2, h2, ?_⟩⟩
        rcases q with ⟨k', _⟩ | ⟨_, c3, e', z⟩
        · have k' : X.env.scope.names.lookup y = some .local := k'
          rcases G.free _ (PySem.mem_of_lookup k) rfl with k2 | k2 <;> rw [show X.env.scope.names.lookup y = _ from k2] at k' <;> cases k'
        · rw [cm h2] at e'
          cases e'
          exact isc z
  · obtain ⟨w', z⟩ := I.cell y c (cm e)
    exact ⟨w', isc z⟩
  · exact I.freeC y c (cm e)
end
abbrev keyY (Y : DX) (k : Nat) (scope : Scope) (z : LCx) (F : Hp) (gs : Gs) : DX := ⟨lamK Y.X scope z, Y.T, k, z.H, F, ads gs, fun _ _ => False⟩
theorem YOk.key {Y : DX} {k : Nat} {scope : Scope} {z : LCx} {F : Hp} {gs : Gs} (ok : YOk Y) (hr : Room k z.A) : YOk (keyY Y k scope z F gs) :=
  ⟨rfl, ok.nd, hr, PassesOwn.never, fun _ _ ⟨_, _, _, _, _, _, _, _, _, _, _, _, _, _, _, _, _, _, _, _, _, q⟩ => q.elim⟩
def NoX (K : Frag) (gs : Gs) : Prop := ∀ p ∈ gs, ∀ F φ, ¬ p.2.rep K F (.ext φ)
section
variable {Y : DX} {st : DSt} {σ : L2.St} {H F : Hp} {pins : List (Addr × Obj)} {s : Shared}
theorem key_call {β κ : Type} [Enc β] [Enc κ] {A : Around} {k i : Nat} {vs : List Nat} {scope : Scope} {x : Str} {params : Arguments} {body : Expr} {f c : Addr} {pm ctv : Value} {v : V} {u : Value} {b : β} {y : κ} {E : Value → Shared → Prop} {Q : Value → Shared → Prop} (I : Inv Y.X pins σ H s) (S : Sta Y st σ H F) (ok : YOk Y)
    (hf : s.heap.get? f = some (PySem.W.kla_obj "<lambda>" (Y.X.env.qual ++ "<lambda>") params body scope (cloFrom Y.X.env.cells scope.names []) pm c ctv)) (hc : H c = some (LamX.CodeO c (Y.X.env.qual ++ "<lambda>"))) (G : ParOk Y.X.N Y.X.env.scope scope vs i x) (hi : i ∈ vs) (nx : NoX Y.X.K st.gs)
    (hbind : ∀ (q : Str) (cl : List (Str × Addr)) (pm cv ctv : Value), bindArgs (PySem.W.kla_fn "<lambda>" q params body scope cl pm cv ctv) ⟨[u], []⟩ = pure [(x, u)]) (hA : A.frames = some Y.X.stack) (hr : Room (k + 1) A) (r : Enc.rep Y.X.K F v b) (rv : RelV v u)
    (hb : ∀ z, YOk (keyY Y k scope z F st.gs) → EvP (keyY Y k scope z F st.gs) ⟨(wipeR st.ρ vs).set i (some (pu b)), st.gs⟩ body (pu y))
    (h : ∀ w' w s' H' F', Inv Y.X pins σ H' s' → Ext F F' → Sta Y st σ H' F' → H' c = some (LamX.CodeO c (Y.X.env.qual ++ "<lambda>")) → Enc.rep Y.X.K F' w y → RelV w w' → Q w' s') :
    wpAny (model Y.X.prog Y.X.w) A (call (.ref f) [u]) Q E s := by
  have nc : c ∉ ads st.gs := fun z => by
    obtain ⟨q, hq, e⟩ := List.mem_map.mp z
    obtain ⟨_, o, h2, _, h4⟩ := S.own q hq
    rw [e, hc] at h2
    cases h2
    exact nx q hq F _ h4
  obtain ⟨⟨oc, cv, t, hoc, hdc, hvc⟩, _, _⟩ := I.hok c _ hc
  have rc : codeAny (model Y.X.prog Y.X.w) A (.call (.ref f) ⟨[u], []⟩) (CR C8.CX0 Y.X.stack Y.X.prog Y.X.w H s (fun w H' => ∃ F', Ext F F' ∧ Sta Y st σ H' F' ∧ H' c = some (LamX.CodeO c (Y.X.env.qual ++ "<lambda>")) ∧ Enc.rep Y.X.K F' w y) C8.E0) s := by
    refine PySem.W.kla_callFunE hr.depth hf rfl G.co G.gen rfl ⟨c, oc, cv, t, rfl, hoc, hdc, hvc⟩ ?_
    rw [hbind]
    refine wpAny_pure (wpAny_newFunctionEnv G.noc (fun y hy => by
      rw [List.mem_singleton.mp hy]; exact G.par) (fun h₁ hns hsb => ⟨I.nolimit.fresh _ hsb, ?_⟩) G.kind)
    show codeAny _ _ (.expr body (LamX.lamEnv Y.X scope s.heap.objs.size f c)) _ _
    have kp : ∀ b o, s.heap.get? b = some o → h₁.get? b = some o := fun b o e => hsb.extBut b o (Nat.ne_of_lt (Heap.lt_size e)) (Heap.get?_push_of_some _ e)
    have hA2 : (A.deeper (LamX.lamEnv Y.X scope s.heap.objs.size f c)).frames = some (LamX.lamEnv Y.X scope s.heap.objs.size f c :: Y.X.stack) := Around.frames_deeper hA
    have J := par_start (A := A.deeper (LamX.lamEnv Y.X scope s.heap.objs.size f c)) (tk := s.toks + ([(x, u)] : List (Str × Value)).length) (f := f) (c := c) I G hi hA2 hr.hd hns kp rv ok.nd
    have S0 : Sta (keyY Y k scope ⟨A.deeper (LamX.lamEnv Y.X scope s.heap.objs.size f c), s, H, f, c⟩ F st.gs) ⟨(wipeR st.ρ vs).set i (some (pu b)), st.gs⟩ ((L2.wipe σ vs).set i (some v)) H F := ⟨S.ext, S.ntb, (S.rep.wipe vs).set r i, S.own, S.nd, S.tb, Step.refl⟩
    refine PySem.W.kla_codeExpr (wpAny_mono ((hb ⟨A.deeper (LamX.lamEnv Y.X scope s.heap.objs.size f c), s, H, f, c⟩ (ok.key (hr.deeper _)) F _ H F (.refl _) S0).run [] _ J) (fun w' s' hq => ?_) fun _ _ e => e.elim)
    obtain ⟨w, H', J', rw', F', e1, r1, S1⟩ := hq
    have back : Sta Y st σ H' F' := by
      have := S.called (gs1 := st.gs) (gs2 := []) (gs1' := st.gs) (by rw [List.append_nil]) S1.stg S1.st
      rwa [List.append_nil] at this
    exact ⟨w, H', J'.os, J'.bare, J'.base, J'.hok, rw', F', e1, back, S1.st.fr _ _ hc rfl nc, r1⟩
  refine wpAny_call (codeAny_mono rc fun q s' hq => ?_)
  match q, hq with
  | .ok (.ret w'), hq =>
    obtain ⟨w, H', I', r', F', e1, S1, hc1, r1⟩ := I.after hq
    exact h w' w s' H' F' I' e1 S1 hc1 r1 r'
  | .ok .next, hq => exact hq.elim
  | .ok .brk, hq => exact hq.elim
  | .ok .cont, hq => exact hq.elim
  | .error e, hq => exact (show False from hq).elim
end
end Sp
set_option maxHeartbeats 4000000
namespace Sp
open PySem L2 PySem.Calls PyProof.Rows
open PySem.W (Datum DatumOrd SomeDatum EachIs KeyedOut)
section
variable {X : Cx} {pins : List (Addr × Obj)} {σ : L2.St} {H : Hp} {s : Shared}
theorem inv_loose {S : List Addr} {h' : Heap} {t' : Nat} (I : Inv X pins σ H s) (a : ∀ b ∈ S, FpOk X pins H b) (k : ∀ b o, b ∉ S → s.heap.get? b = some o → h'.get? b = some o) : Inv X pins σ H { s with heap := h', toks := t' } := by
  have nS : ∀ b u, H b = some u → b ∉ S := fun b u e q => by rw [(a b q).1] at e; cases e
  refine I.step (g' := s.gens) (d' := s.drawn) (ch := S) (fun b hb => ?_) (fun b ob _ _ hc q _ => k b ob hc q) (fun b ob _ _ hc q _ => ⟨ob.slots, k b ob hc q⟩) (fun _ _ _ _ n => n) (fun b ob hc q => ⟨ob, k b ob hc q⟩)
    (fun _ _ q => q) (fun _ _ _ q => q) (fun b ps q => ⟨#[], by rw [q]; simp⟩) (fun m hm => ?_) (fun b u q => ?_) I.bare
  · obtain ⟨_, h2, h3, h4, h5, h6⟩ := a b hb
    exact ⟨h4, h2, h5, h6⟩
  · obtain ⟨ob, es, ep, hob, r⟩ := hm
    exact ⟨ob, es, ep, k _ ob (fun q => (a _ q).2.1 rfl) hob, r⟩
  · refine (I.hok b u q).stay (fun c v hc y => k c v ?_ y) (fun _ y => y) fun _ _ y => y
    rcases hc with y | y
    · rw [y]; exact nS b u q
    · exact nS c _ y
theorem inv_track {a : Addr} {o : HO} (I : Inv X pins σ H s) (ap : FpOk X pins H a) (new : ObjOk X.prog X.w (upd H a o) s.heap a o) : Inv X pins σ (upd H a o) s := by
  obtain ⟨h1, h2, h3, h4, h5, h6⟩ := ap
  have ne : ∀ {b u}, H b = some u → upd H a o b = some u := fun {b u} e => by rw [upd_ne (ne_of_none e h1)]; exact e
  have := I.step (h' := s.heap) (t' := s.toks) (g' := s.gens) (d' := s.drawn) (H' := upd H a o) (ch := [a]) (fun b hb => by
      rw [List.mem_singleton.mp hb]; exact ⟨h4, h2, h5, h6⟩) (fun b ob _ _ _ q _ => q) (fun b ob _ _ _ q _ => ⟨ob.slots, q⟩) (fun b ob hb q n => by
      rw [upd_ne (fun z => hb (by rw [z]; exact List.mem_singleton.mpr rfl))]; exact n) (fun b ob _ q => ⟨ob, q⟩)
    (fun b xs e => ne e) (fun b ob u e => ne e) (fun b ps e => ⟨#[], by rw [ne e]; simp⟩) (fun m hm => hm) (fun b u q => ?_) I.bare
  · exact this
  · by_cases hb : b = a
    · subst hb
      rw [upd_same] at q
      cases q
      exact new
    · rw [upd_ne hb] at q
      exact (I.hok b u q).stay (fun c v _ y => y) (fun c y => ne y) fun c xs y => ne y
end
theorem each_mapR {α β γ : Type} {R : α → γ → Prop} {g : β → γ} : ∀ {vs : List α} {xs : List β}, EachIs (fun v a => R v (g a)) vs xs → EachIs R vs (xs.map g)
  | _, _, .nil => .nil
  | _, _, .cons h t => .cons h (each_mapR t)
def srtK {α κ : Type} [DecidableEq κ] [DatumOrd κ] (key : α → κ) (xs : List α) : List α := xs.mergeSort fun a b => !DatumOrd.lt (key b) (key a)
theorem srtK_eq {α κ : Type} [DecidableEq κ] [DatumOrd κ] (key : α → κ) (xs : List α) : xs.mergeSort (PySem.W.dataLe false fun x => Datum.toD (key x)) = srtK key xs := by
  unfold srtK
  congr 1
  funext a b
  show (!PySem.W.dataLt (Datum.toD (key b)) (Datum.toD (key a))) = _
  rw [DatumOrd.lt_eq]
theorem vals_snoc {ks : List V} {kA : List Value} {w : V} {u : Value} (h : Vals ks kA) (r : RelV w u) : Vals (ks ++ [w]) (kA ++ [u]) := by
  induction h with
  | nil => exact .cons r .nil
  | cons a _ ih => exact .cons a ih
theorem vs_snoc {K : Frag} {F : Hp} {κ : Type} [Enc κ] {ks : List V} {ys : List κ} {w : V} {y : κ} (h : Vs K F ks ys) (r : Enc.rep K F w y) : Vs K F (ks ++ [w]) (ys ++ [y]) := by
  induction h with
  | nil => exact .cons r .nil
  | cons a _ ih => exact .cons a ih
theorem paired_at {α β : Type} {F : α → β → Prop} : ∀ {xs : List α} {ys : List β} {i : Nat} {y : β}, Paired F xs ys → ys[i]? = some y → ∃ x, xs[i]? = some x ∧ F x y
  | _, _, 0, y, .cons r _, e => ⟨_, rfl, by cases e; exact r⟩
  | _, _, i + 1, y, .cons _ t, e => paired_at (i := i) t (by simpa using e)
  | _, _, i, y, .nil, e => by simp at e
theorem paired_at' {α β : Type} {F : α → β → Prop} : ∀ {xs : List α} {ys : List β} {i : Nat} {x : α}, Paired F xs ys → xs[i]? = some x → ∃ y, ys[i]? = some y ∧ F x y
  | _, _, 0, x, .cons r _, e => ⟨_, rfl, by cases e; exact r⟩
  | _, _, i + 1, x, .cons _ t, e => paired_at' (i := i) t (by simpa using e)
  | _, _, i, x, .nil, e => by simp at e
theorem each_ofG {α : Type} [Enc α] {K : Frag} {H : Hp} : ∀ {zs : List V} {its : List Value} {xs : List α}, Vs K H zs xs → Vals zs its → EachIs (fun u a => ∃ z, Enc.rep K H z a ∧ RelV z u) its xs
  | _, _, _, .nil, h => by cases h; exact .nil
  | _, _, _, .cons r t, h => by
    cases h with
    | cons r2 t2 => exact .cons ⟨_, r, r2⟩ (each_ofG t t2)
theorem each_backG {α : Type} [Enc α] {K : Frag} {H : Hp} : ∀ {its : List Value} {xs : List α}, EachIs (fun u a => ∃ z, Enc.rep K H z a ∧ RelV z u) its xs → ∃ zs, Vs K H zs xs ∧ Vals zs its
  | _, _, .nil => ⟨[], .nil, .nil⟩
  | _, _, .cons ⟨z, r1, r2⟩ t => by
    obtain ⟨zs, h1, h2⟩ := each_backG t
    exact ⟨z :: zs, .cons r1 h1, .cons r2 h2⟩
section
variable {Y : DX} {st : DSt} {σ : L2.St} {H F : Hp} {pins : List (Addr × Obj)} {s : Shared}
theorem key_tree {α κ : Type} [Enc α] [DecidableEq κ] [Enc κ] [DatumOrd κ] [Dat κ] [Srtb κ] {A : Around} {k i n : Nat} {vs : List Nat} {scope : Scope} {x : Str} {params : Arguments} {body : Expr} {f c a : Addr} {pm ctv : Value} {acc : List Value} {zs : List V} {xs : List α} {key : α → κ} {P : PySem.Fin → Shared → Prop} {E : Value → Shared → Prop}
    (I : Inv Y.X ((f, PySem.W.kla_obj "<lambda>" (Y.X.env.qual ++ "<lambda>") params body scope (cloFrom Y.X.env.cells scope.names []) pm c ctv) :: pins) σ H s) (S : Sta Y st σ H F) (ok : YOk Y) (ho : s.heap.get? a = some (seqObj "list" acc.toArray n))
    (ap : FpOk Y.X ((f, PySem.W.kla_obj "<lambda>" (Y.X.env.qual ++ "<lambda>") params body scope (cloFrom Y.X.env.cells scope.names []) pm c ctv) :: pins) H a)
    (hc : H c = some (LamX.CodeO c (Y.X.env.qual ++ "<lambda>"))) (G : ParOk Y.X.N Y.X.env.scope scope vs i x) (hi : i ∈ vs) (nx : NoX Y.X.K st.gs)
    (hbind : ∀ (u : Value) (q : Str) (cl : List (Str × Addr)) (pm cv ctv : Value), bindArgs (PySem.W.kla_fn "<lambda>" q params body scope cl pm cv ctv) ⟨[u], []⟩ = pure [(x, u)]) (hA : A.frames = some Y.X.stack) (hr : Room (k + 1) A) (hd : Datum.depth κ ≤ 60)
    (rv : Vals zs acc) (hz : Vs Y.X.K F zs xs) (hL : acc.length ≤ sizeLine)
    (hb : ∀ z F', YOk (keyY Y k scope z F' st.gs) → ∀ b ∈ xs, EvP (keyY Y k scope z F' st.gs) ⟨(wipeR st.ρ vs).set i (some (pu b)), st.gs⟩ body (pu (key b)))
    (h : ∀ s' H' F' zs', Inv Y.X pins σ (upd H' a (.lst zs')) s' → H' a = none → Ext F F' → Sta Y st σ H' F' → Vs Y.X.K F' zs' (srtK key xs) → P (.done (.ret .none)) s') :
    wpAny (model Y.X.prog Y.X.w) A (ksk_tree a (.ref f) false) P E s := by
  generalize hfo : PySem.W.kla_obj "<lambda>" (Y.X.env.qual ++ "<lambda>") params body scope (cloFrom Y.X.env.cells scope.names []) pm c ctv = fo at *
  have hzl : zs.length = xs.length := Paired.length hz
  have hrl : zs.length = acc.length := Paired.length rv
  have fpS : ∀ {H' : Hp}, H' (s.heap.objs.size + 1) = none → FpOk Y.X ((f, fo) :: pins) H' (s.heap.objs.size + 1) := fun e => I.fpOk (Nat.le_succ _) e
  have fpA : ∀ {H' : Hp}, H' a = none → FpOk Y.X ((f, fo) :: pins) H' a := fun e => ⟨e, ap.2⟩
  refine sk_tree (kz := xs.map fun x => Datum.toD (key x)) (J := fun i kA s1 => ∃ H' F' ks, Inv Y.X ((f, fo) :: pins) σ H' s1 ∧ H' a = none ∧ H' (s.heap.objs.size + 1) = none ∧ Ext F F' ∧ Sta Y st σ H' F' ∧ H' c = some (LamX.CodeO c (Y.X.env.qual ++ "<lambda>")) ∧ Vals ks kA ∧ Vs Y.X.K F' ks ((xs.map key).take i))
    ho (by rw [List.length_map]; omega) hL ?_ ?_ (fun d hd' => ?_) (fun h1 k1 k2 k3 => ?_) (fun j v kA s1 e e1 hv hkl jj q1 q2 => ?_) fun s1 kA jj => ?_
  · have := sort_alike (xs.map key)
    rwa [List.map_map] at this
  · have := sort_able (xs.map key)
    rwa [List.map_map] at this
  · obtain ⟨b, _, rfl⟩ := List.mem_map.mp hd'
    have := Datum.depth_le (key b)
    have := hr.units
    omega
  · have hS0 : H (s.heap.objs.size + 1) = none := I.hok.fresh (Nat.le_succ _)
    refine ⟨H, F, [], inv_loose (t' := s.toks) (S := [a]) I (fun b hb => by rw [List.mem_singleton.mp hb]; exact ap) fun b o hb z => k1 b o (fun e => hb (List.mem_singleton.mpr e)) z, ap.1, hS0, Ext.refl _, S, hc, .nil, by rw [List.take_zero]; exact .nil⟩
  · obtain ⟨H', F', ks, I1, n1, n2, e1', S1, hc1, rk, hk⟩ := jj
    obtain ⟨z, hz1, rz⟩ := paired_at rv hv
    obtain ⟨b, hb1, rb⟩ := paired_at' hz hz1
    have I2 : Inv Y.X ((a, seqObj "list" #[] e1) :: (s.heap.objs.size + 1, seqObj "list" kA.toArray e) :: (f, fo) :: pins) σ H' s1 := I1.pins_of fun p hp => by
      rcases List.mem_cons.mp hp with rfl | hp
      · exact ⟨q2, n1, ap.2.1, ap.2.2.1, fun v z => by cases z⟩
      rcases List.mem_cons.mp hp with rfl | hp
      · exact ⟨q1, n2, (fpS n2).2.1, (fpS n2).2.2.1, fun v z => by cases z⟩
      · exact I1.pin p (List.mem_append_right _ hp)
    have pf := I1.pin (f, fo) (List.mem_append_right _ List.mem_cons_self)
    subst hfo
    refine key_call (y := key b) I2 S1 ok pf.1 hc1 G hi nx (hbind v) hA hr (Enc.mono rb e1') rz (fun z' ok' => hb z' F' ok' b (List.mem_of_getElem? hb1)) fun w' w s2 H2 F2 J2 e2 S2 hc2 r2 rw' => ?_
    have pa := J2.pin _ (List.mem_append_right _ List.mem_cons_self)
    have pS := J2.pin _ (List.mem_append_right _ (List.mem_cons_of_mem _ List.mem_cons_self))
    refine ⟨pS.1, pa.1, fun h' g1 g2 => ?_⟩
    have J3 : Inv Y.X ((f, PySem.W.kla_obj "<lambda>" (Y.X.env.qual ++ "<lambda>") params body scope (cloFrom Y.X.env.cells scope.names []) pm c ctv) :: pins) σ H2 s2 := J2.pins_of fun p hp => J2.pin p (List.mem_append_right _ (List.mem_cons_of_mem _ (List.mem_cons_of_mem _ hp)))
    refine ⟨H2, F2, ks ++ [w], inv_loose (t' := s2.toks) (S := [s.heap.objs.size + 1]) J3 (fun b hb => by rw [List.mem_singleton.mp hb]; exact fpS pS.2.1) (fun b o hb z => g1 b o (fun e => hb (List.mem_singleton.mpr e)) z), pa.2.1, pS.2.1, e1'.trans e2, S2, hc2, vals_snoc rk rw', ?_⟩
    have et : (xs.map key).take (j + 1) = (xs.map key).take j ++ [key b] := by
      rw [List.take_add_one, List.getElem?_map, hb1]; rfl
    rw [et]
    exact vs_snoc (hk.mono e2) r2
  · obtain ⟨H', F', ks, I1, n1, n2, e1', S1, hc1, rk, hk⟩ := jj
    rw [List.take_of_length_le (by rw [List.length_map]; omega)] at hk
    have ek : EachIs (fun v d => ∃ as, Reads s1.heap v d as) kA (xs.map fun x => Datum.toD (key x)) := by
      have e0 := (each_ofG hk rk).mono fun u a ⟨z, r1, r2⟩ => enc_holds I1 (Enc.mono r1 S1.ext) r2
      have e1 := each_mapR (R := fun v d => ∃ as, Reads s1.heap v d as) (g := Datum.toD) e0
      rwa [List.map_map] at e1
    refine ⟨ek, fun h' tk out c' g1 g2 g3 => ?_⟩
    have eo := PySem.W.keyedOut_each (fun x => Datum.toD (key x)) g3 (each_ofG (hz.mono e1') rv)
    rw [srtK_eq] at eo
    obtain ⟨zs', v1, v2⟩ := each_backG eo
    have hlz : zs'.length = out.length := Paired.length v2
    have hlo : out.length ≤ sizeLine := by
      have h1 := g3.length (by rw [List.length_map]; omega)
      omega
    have I2 : Inv Y.X pins σ H' s1 := I1.pins_of fun p hp => I1.pin p (List.mem_append_right _ (List.mem_cons_of_mem _ hp))
    have fps : ∀ b ∈ [a, s.heap.objs.size + 1], FpOk Y.X pins H' b := fun b hb => by
      have weak : ∀ {b}, FpOk Y.X ((f, fo) :: pins) H' b → FpOk Y.X pins H' b := fun ⟨h1, h2, h3, h4, h5, h6⟩ => ⟨h1, h2, h3, h4, h5, fun p hp => h6 p (by
        rcases List.mem_append.mp hp with q | q
        · exact List.mem_append_left _ q
        · exact List.mem_append_right _ (List.mem_cons_of_mem _ q))⟩
      rcases List.mem_cons.mp hb with rfl | hb
      · exact weak (fpA n1)
      · rw [List.mem_singleton.mp hb]; exact weak (fpS n2)
    have I3 := inv_loose (t' := tk) (S := [a, s.heap.objs.size + 1]) I2 fps fun b o hb z => g1 b o (fun e => hb (by rw [e]; exact List.mem_cons_self)) (fun e => hb (by rw [e]; simp)) z
    exact h _ H' F' zs' (inv_track I3 (fps a List.mem_cons_self) ⟨by omega, out, _, v2, g2⟩) n1 e1' S1 v1
end
end Sp
set_option maxHeartbeats 4000000
namespace Sp
open PySem L2 PySem.Calls PyProof.Rows
open PySem.W (Datum DatumOrd SomeDatum EachIs KeyedOut)
def Coll (Y : DX) (s : DSt) {α : Type} [Enc α] (A : Pv) (xs : List α) : Prop := ∀ pins σ H F v u sh, Inv Y.X pins σ H sh → Sta Y s σ H F → A.rep Y.X.K F v → RelV v u → ∃ p, u = .ref p ∧
  ∀ (R : List Value → Shared → Prop) (E : Value → Shared → Prop), (∀ acc h' tk H' F' zs, Inv Y.X pins σ H' { sh with heap := h', toks := tk } → (∀ b o, H b = some o → H' b = some o) → Ext F F' → Sta Y s σ H' F' → Vals zs acc → Vs Y.X.K F' zs xs → acc.length ≤ sizeLine → R acc { sh with heap := h', toks := tk }) →
    wpAny (model Y.X.prog Y.X.w) Y.X.A.in1 (collect (.ref p)) R E sh
def EvKl (Y : DX) (s : DSt) (e : Expr) {α : Type} [Enc α] (W : (List α → Prop) → Prop) : Prop := ∀ k : List α → Prop, W k → Ev Y s e fun A s' => ∃ xs, Coll Y s A xs ∧ s' = s ∧ k xs
section
variable {Y : DX} {s : DSt} {e a : Expr} {α κ : Type} [Enc α]
theorem evp_of {x : α} (h : Ev Y s e fun A s' => ∃ r : α, A = pu r ∧ s' = s ∧ r = x) : EvP Y s e (pu x) := fun F0 σ H F e0 S => (h F0 σ H F e0 S).mono fun v H' ⟨A, s', F', e1, r, S', y, ea, es, ey⟩ => by
  subst ea es ey
  exact ⟨F', e1, r, S'⟩
end
section
variable {prog : Program} {w : World} {A : Around} {E : Value → Shared → Prop} {s : Shared}
theorem sorted_coll {Good : List Value → Shared → Prop} {l q : Addr} {Q : Value → Shared → Prop} (hcol : ∀ (R : List Value → Shared → Prop) (E' : Value → Shared → Prop), (∀ acc s', Good acc s' → R acc s') → wpAny (model prog w) A.in1 (collect (.ref l)) R E' s)
    (body : ∀ acc s', Good acc s' → acc.length ≤ sizeLine ∧ ∀ E', wpAny (model prog w) A.in1.in1 (ksk_tree s'.heap.objs.size (.ref q) false) (fun f s2 => f = .done (.ret .none) ∧ Q (.ref s'.heap.objs.size) s2) E' { s' with heap := s'.heap.push (seqObj "list" acc.toArray 0) }) :
    wpAny (model prog w) A (call (.builtin "sorted") [.ref l] [(Str.ofString "key", .ref q)]) Q E s := by
  refine call_function_entry_kw kind_sorted plain_sorted entry_sorted (ksk_s1 _ _) ?_
  unfold Builtin.«sorted»
  refine wpAny_bind (m := checkCount "sorted" 1 1 _) (wpAny_pure (wpAny_bind (hcol _ _ fun acc s' g => ?_)))
  obtain ⟨hz, hb⟩ := body acc s' g
  refine wpAny_bind (wpAny_newList (wpAny_bind (wpAny_holding (wpAny_call_entry_kw slot_list_sort ⟨_, Heap.get?_push_size _ rfl, rfl⟩ entry_list_sort ?_ (ksk_l1 _ _)))) hz)
  rw [ksk_t1]
  refine wpAny_mono (hb _) (fun f s2 hf => ?_) fun _ _ e => e
  obtain ⟨rfl, hq⟩ := hf
  exact ⟨_, rfl, wpAny_pure ⟨_, rfl, hq⟩⟩
end
inductive TbL (X : Cx) (T : Tb) (q : Str) (lp : Pos) : Prop
  | pl (h : Tbl X T (.plain q)) : TbL X T q lp
  | mx {ls : List (Nat × Nat)} (h : Tbl X T (.mix ls q)) (hl : lamAt ls lp = true) : TbL X T q lp
structure LamAtT (X : Cx) (T : Tb) (params : Arguments) (body : Expr) (scope : Scope) (H H1 : Hp) (f c' : Addr) (pm ctv : Value) (s' : Shared) : Prop where
  ext : LamX.ExtN H H1
  tb : TbOk T H1
  obj : s'.heap.get? f = some (PySem.W.kla_obj "<lambda>" (X.env.qual ++ "<lambda>") params body scope (cloFrom X.env.cells scope.names []) pm c' ctv)
  free : H1 f = none
  nofr : f ∉ frs X.stack
  code : H1 c' = some (LamX.CodeO c' (X.env.qual ++ "<lambda>"))
section
variable {X : Cx} {pins : List (Addr × Obj)} {σ : L2.St} {H : Hp} {s : Shared}
theorem lam_laidT {T : Tb} {params : Arguments} {body : Expr} {scope : Scope} {pos : Pos} {E Q : Value → Shared → Prop} (I : Inv X pins σ H s) (tb : TbL X T (X.env.qual ++ "<lambda>") pos) (hT : TbOk T H) (hdef : defaultsOf params X.env = ([], [])) (hfree : ∀ y ∈ scope.names, y.2 = .free → ∃ c, X.env.cells.lookup y.1 = some c)
    (h : ∀ (f c' : Addr) (pm ctv : Value) (H1 : Hp) (s' : Shared), Inv X pins σ H1 s' → LamAtT X T params body scope H H1 f c' pm ctv s' → Q (.ref f) s') :
    wpAny (model X.prog X.w) X.A (eval (.Lambda params body scope pos) X.env) Q E s := by
  cases tb with
  | pl tb =>
    obtain ⟨c0, P, b1, b2, b3, b4⟩ := tb.ex
    exact lam_laid I b1 b2 (plainT_mem.mpr b3) (fun p hp e => by have h9 := b4 (p.1, .plain p.2) (plainT_mem.mp hp) e; injection h9) hT.tabs hdef hfree fun f c' pm ctv H1 s' J M =>
      h f c' pm ctv H1 s' J ⟨M.ext, hT.extN M.ext M.tabs fun b ps hn e => M.oth b ps (fun z => by rcases hn with ⟨_, hn⟩ | ⟨_, _, hn⟩ <;> (have h9 := b4 _ hn z; cases h9)) e, M.obj, M.free, M.nofr, M.code⟩
  | @mx ls tb hl =>
    obtain ⟨c, P, B, hcode, hmT, hu⟩ := tb.ex
    obtain ⟨ps, hP, ht, ha⟩ := hT _ hmT
    have bP : s.heap.BuiltinsAt X.mg P := B.bm.keeps I.bk
    have oP : s.heap.get? P = some { cls := .none, data := .fields ps } := I.hok P _ hP
    have away : ∀ f : Addr, s.heap.objs.size ≤ f → f ∉ frs X.stack := fun f hf z => (List.mem_cons.mp (I.stkSub _ z)).elim
      (fun e => absurd (Nat.lt_of_lt_of_le (show f < s.heap.objs.size by rw [e]; exact I.lt) hf) (Nat.lt_irrefl _)) (fun e => I.nofs hf e)
    refine PySem.W.kla_eval hdef ?_
    cases hf : codeAmong pos ps.toList with
    | some cv =>
      obtain ⟨c', rfl, hco⟩ := ha pos cv hf
      refine PySem.W.kla_makeFunctionHit (mg := X.mg) (c := c) (P := P) (ps := ps) (closure_ok hfree) I.ok.glob (I.mod.glob.keeps I.bk) hcode (B.code.keeps I.bk) oP ht hf bP fun ctv h' tk hx hsz => ?_
      exact h _ c' _ ctv H _ (I.kept fun b o e => Heap.get?_push_of_some _ (hx b o e)) ⟨.refl H, hT, Heap.get?_push_size _ rfl, I.hok.fresh hsz, away _ hsz, hco hl⟩
    | none =>
      refine PySem.W.kla_makeFunction (mg := X.mg) (c := c) (P := P) (ps := ps) (closure_ok hfree) I.ok.glob (I.mod.glob.keeps I.bk) hcode (B.code.keeps I.bk) oP ht hf B.gP bP fun c' ctv h' tk hx hge hlt hrec htb => ?_
      obtain ⟨c2, oc, vs, t, e2, hoc, hd, hv⟩ := hrec
      cases e2
      have big : s.heap.objs.size ≤ h'.objs.size := Nat.le_trans hge (Nat.le_of_lt hlt)
      have nC : H c' = none := I.hok.fresh hge
      have sm : ∀ b o, H b = some o → b ≠ P → upd (upd H P (.tbl (ps ++ #[rawInt pos.line, rawInt pos.col, .ref c']))) c' (LamX.CodeO c' (X.env.qual ++ "<lambda>")) b = some o := fun b o e n => by
        rw [upd_ne (ne_of_none e nC), upd_ne n]; exact e
      have ex : LamX.ExtN H (upd (upd H P (.tbl (ps ++ #[rawInt pos.line, rawInt pos.col, .ref c']))) c' (LamX.CodeO c' (X.env.qual ++ "<lambda>"))) := fun b o e n => sm b o e fun z => n ps (by rw [z, hP] at e; exact (Option.some.inj e).symm)
      have J := LamX.inv_table (t' := tk) (more := #[rawInt pos.line, rawInt pos.col, .ref c']) (h' := h'.push (PySem.W.kla_obj "<lambda>" (X.env.qual ++ "<lambda>") params body scope (cloFrom X.env.cells scope.names []) ((X.mg "__name__").getD .none) c' ctv)) I hP
        (fun b o hb e => Heap.get?_push_of_some _ (hx b o hb e)) (Heap.get?_push_of_some _ htb) hge ⟨oc, vs, t, Heap.get?_push_of_some _ hoc, hd, hv⟩
      have tl : (ps ++ #[rawInt pos.line, rawInt pos.col, .ref c']).toList = ps.toList ++ [rawInt pos.line, rawInt pos.col, .ref c'] := by simp
      refine h h'.objs.size c' _ ctv _ _ J ⟨ex, mix_tb hT hmT hu sm ex ⟨_, by rw [upd_ne (ne_of_none hP nC), upd_same], by rw [tl]; exact PySem.TriplesOk_snoc _ _ _ _ ht, fun p' cv hcv => ?_⟩, Heap.get?_push_size _ rfl, ?_, away _ big, upd_same⟩
      · rw [tl] at hcv
        rcases LamX.among_app _ ht hcv with y | y
        · obtain ⟨d, e1, e2⟩ := ha p' cv y
          exact ⟨d, e1, fun l => ex _ _ (e2 l) LamX.codeO_ne⟩
        · exact ⟨c', y, fun _ => upd_same⟩
      · have n2 : h'.objs.size ≠ P := Nat.ne_of_gt (Nat.lt_of_lt_of_le (Heap.lt_size oP) big)
        rw [upd_ne (Nat.ne_of_gt hlt), upd_ne n2]
        exact I.hok.fresh big
end
section
variable {Y : DX} {s : DSt} {a : Expr} {α κ : Type} [Enc α] [DecidableEq κ] [Enc κ] [DatumOrd κ] [Dat κ] [Srtb κ]
theorem c_sortedK {W : (List α → Prop) → Prop} {We : α → (κ → Prop) → Prop} {params : Arguments} {body : Expr} {scope : Scope} {lpos kp p pos : Pos} {x : Str} (k : Nat) (vs : List Nat) (i : Nat) (key : α → κ) (ok : YOk Y) (B : Bis Y.X.mg) (hg : Gl Y.X "sorted") (hk : k + 3 ≤ Y.k) (ha : EvKl Y s a W)
    (tb : TbL Y.X Y.T (Y.X.env.qual ++ "<lambda>") lpos) (G : ParOk Y.X.N Y.X.env.scope scope vs i x) (nx : NoX Y.X.K s.gs)
    (hb : ∀ z F', YOk (keyY Y k scope z F' s.gs) → ∀ x : α, EvC (keyY Y k scope z F' s.gs) ⟨(wipeR s.ρ vs).set i (some (pu x)), s.gs⟩ body (We x))
    (hi : i ∈ vs := by decide) (hd : Datum.depth κ ≤ 60 := by decide) (hdef : defaultsOf params Y.X.env = ([], []) := by rfl)
    (hbind : ∀ (u : Value) (q : Str) (cl : List (Str × Addr)) (pm cv ctv : Value), bindArgs (PySem.W.kla_fn "<lambda>" q params body scope cl pm cv ctv) ⟨[u], []⟩ = pure [(x, u)] := by intros; rfl)
    (he : starEach [a] Y.X.env = (false, eval a Y.X.env) :: starEach [] Y.X.env := by rfl) (he2 : ∀ pos, backTo pos (starEach [a] Y.X.env) = (false, eval a Y.X.env) :: backTo pos (starEach [] Y.X.env) := by intro _; rfl) (hpl : ∀ pos, (backTo pos (starEach [a] Y.X.env)).any (·.1) = false := by intro _; rfl) :
    EvC Y s (.Call (.Name "sorted" p) [a] [⟨some "key", .Lambda params body scope lpos, kp⟩] pos) fun r => W fun xs => (∀ x ∈ xs, We x fun y => y = key x) ∧ r (srtK key xs) := fun r w F0 σ H F e0 S => by
  refine ⟨fun pins sh I => ?_⟩
  refine wpAny_Call_Name_kw (ld_blt I hg (B.no _ (by decide)) PyProof.Rows.boot_sorted (callWith_kw ?_ (he2 pos) (hpl pos)))
  refine wpAny_mono ((pa_cons (X := Y.X) pe_we pa_nil he).run pos pins sh σ H (fun vs9 H9 => ∃ v, vs9 = [v] ∧ Po Y σ F0 (fun A s' => ∃ xs : List α, Coll Y s A xs ∧ s' = s ∧ (∀ x ∈ xs, We x fun y => y = key x) ∧ r (srtK key xs)) v H9) I ((ha _ w F0 σ H F e0 S).mono fun v H1 q => ⟨v, rfl, q⟩)) (fun us s1 hq => ?_) fun _ _ e => e
  obtain ⟨vs9, H1, I1, ru, v, ev, A, s', F1, e1, rA, S1, xs, hcol, es, hW, hr⟩ := hq
  subst ev es
  obtain ⟨u, rfl, rv⟩ := vals1 ru
  refine kws_cons (lam_laidT I1 tb S1.tb hdef (fun y hy e => by
    rcases G.free y hy e with q | q
    · exact I1.ok.has _ (.inl q)
    · exact I1.ok.has _ (.inr q)) fun f c pm ctv H2 s2 J M => kws_nil ?_)
  have S2 := S1.extT M.ext M.tb
  have fne : f ≠ Y.X.env.locals := fun z => by
    obtain ⟨m, ⟨ob, es, ep, hob, hdt, _⟩, _⟩ := J.loc
    have hq := M.obj
    rw [z, hob] at hq
    rw [Option.some.inj hq] at hdt
    cases hdt
  have fnf : f ∉ Y.X.fs := fun z => by
    rcases J.ok.stk with q | q
    · exact M.nofr (by rw [q]; exact z)
    · refine M.nofr ?_
      rw [q.1]
      unfold frs
      rw [List.filterMap_cons, q.2]
      exact List.mem_cons_of_mem _ z
  have J2 : Inv Y.X ((f, PySem.W.kla_obj "<lambda>" (Y.X.env.qual ++ "<lambda>") params body scope (cloFrom Y.X.env.cells scope.names []) pm c ctv) :: pins) σ H2 s2 := J.pins_of fun p hp => by
    rcases List.mem_cons.mp hp with rfl | hp
    · exact ⟨M.obj, M.free, fne, fnf, fun v z => by cases z⟩
    · exact J.pin p (List.mem_append_right _ hp)
  obtain ⟨l, rfl, hcl⟩ := hcol _ σ H2 F1 v u s2 J2 S2 rA rv
  have hroom : Room (k + 1) Y.X.A.in1.in1 := (ok.room.mono hk).in1.in1
  refine sorted_coll (Good := fun acc s3 => ∃ H' F' zs, Inv Y.X ((f, PySem.W.kla_obj "<lambda>" (Y.X.env.qual ++ "<lambda>") params body scope (cloFrom Y.X.env.cells scope.names []) pm c ctv) :: pins) σ H' s3 ∧ H' c = some (LamX.CodeO c (Y.X.env.qual ++ "<lambda>")) ∧ Ext F1 F' ∧ Sta Y s' σ H' F' ∧ Vals zs acc ∧ Vs Y.X.K F' zs xs ∧ acc.length ≤ sizeLine)
    (fun R E' kk => hcl R E' fun acc h' tk H' F' zs I3 hm e3 S3 r3 z3 l3 => kk acc _ ⟨H', F', zs, I3, hm _ _ M.code, e3, S3, r3, z3, l3⟩) fun acc s3 ⟨H', F', zs, I3, hc3, e3, S3, r3, z3, l3⟩ => ⟨l3, fun E' => ?_⟩
  have I4 : Inv Y.X ((f, PySem.W.kla_obj "<lambda>" (Y.X.env.qual ++ "<lambda>") params body scope (cloFrom Y.X.env.cells scope.names []) pm c ctv) :: pins) σ H' { s3 with heap := s3.heap.push (seqObj "list" acc.toArray 0) } := I3.kept (t' := s3.toks) fun b o e => Heap.get?_push_of_some _ e
  refine key_tree (key := key) I4 S3 ok (Heap.get?_push_size _ rfl) (I3.fpOk (Nat.le_refl _) (I3.hok.fresh (Nat.le_refl _))) hc3 G hi nx hbind I.ok.frames hroom hd r3 z3 l3 (fun z F9 ok9 b hb9 => evp_of (hb z F9 ok9 b _ (hW b hb9))) fun s5 H5 F5 zs5 I5 n5 e5 S5 v5 => ⟨rfl, .ref _, _, I5, rfl, ?_⟩
  obtain ⟨F6, e6, r6, S6⟩ := pp_list ((e1.trans e3).trans e5) S5 v5 _ n5
  exact ⟨_, _, F6, e6, r6, S6, _, rfl, rfl, hr⟩
end
end Sp
set_option maxHeartbeats 400000
namespace Sp
open PySem L2 PySem.Calls PyProof.Rows
open PySem.W (Datum DatumOrd SomeDatum EachIs KeyedOut)
section
variable {X : Cx} {pins : List (Addr × Obj)} {σ : L2.St}
theorem track_all {H0 : Hp} {s : Shared} {h' : Heap} {tk : Nat} (I0 : Inv X pins σ H0 s) {as : List Addr} {kvs : List (Key × V)} (pr : Paired (fun (a : Addr) (p : Key × V) => ∃ key x, h'.get? a = some { cls := .type "tuple", data := .seq #[key, x] } ∧ RelV (kV p.1) key ∧ RelV p.2 x) as kvs) :
    ∀ H : Hp, Inv X pins σ H { s with heap := h', toks := tk } → as.Nodup → (∀ a ∈ as, s.heap.objs.size ≤ a ∧ H a = none) → Inv X pins σ (LiI.putT H as kvs) { s with heap := h', toks := tk } := by
  induction pr with
  | nil => exact fun H J _ _ => J
  | @cons a p as kvs h t ih =>
    intro H J nd hb
    obtain ⟨key, x, g1, g2, g3⟩ := h
    obtain ⟨n1, n2⟩ := List.nodup_cons.mp nd
    obtain ⟨b1, b2⟩ := hb a List.mem_cons_self
    have J2 : Inv X pins σ (upd H a (.tup [kV p.1, p.2])) { s with heap := h', toks := tk } := inv_track J (I0.fpOk b1 b2) ⟨by show 2 ≤ sizeLine; decide, [key, x], .cons g2 (.cons g3 .nil), ⟨_, g1, rfl, _, rfl⟩⟩
    refine ih _ J2 n2 fun c hc => ?_
    obtain ⟨c1, c2⟩ := hb c (List.mem_cons_of_mem _ hc)
    exact ⟨c1, by rw [upd_ne (fun z => n1 (by rw [← z]; exact hc))]; exact c2⟩
end
def itv (A : Pv) (q : Addr) : Pv := ⟨fun K F v => A.rep K F (.ref q) ∧ ∃ p, v = .ref p ∧ F p = some (L2.DX.itemsO p q), fun ⟨h, p, e1, e2⟩ e => ⟨A.mono h e, p, e1, e _ _ e2⟩⟩
section
variable {Y : DX} {s : DSt} {e : Expr} {κ ν : Type} [DecidableEq κ] [Kk κ] [Enc κ] [KkV κ] [Enc ν]
theorem pair_vs {K : Frag} {H' F F' : Hp} {ts : List Addr} (eF : Ext F F') (hF : ∀ t ∈ ts, F' t = H' t) : ∀ (as : List Addr) (kvs : List (Key × V)) (m : List (κ × ν)), (∀ t ∈ as, t ∈ ts) → Paired (fun (t : Addr) (q : Key × V) => H' t = some (.tup [kV q.1, q.2])) as kvs → KVs K F kvs m → Vs K F' (as.map V.ref) m
  | [], [], m, _, .nil, h2 => by cases h2; exact .nil
  | a :: as, q :: kvs, m, sub, .cons h t, h2 => by
    cases h2 with
    | cons b r =>
      refine .cons ⟨a, kV q.1, q.2, rfl, ?_, ?_, Enc.mono b.2 eF⟩ (pair_vs eF hF as kvs _ (fun t ht => sub t (List.mem_cons_of_mem _ ht)) t r)
      · rw [hF a (sub a List.mem_cons_self)]; exact h
      · rw [b.1]; exact KkV.rep _
theorem coll_items {A : Pv} {q : Addr} {m : List (κ × ν)} (hc : Y.X.calm = true) (h : DF Y s A m) : Coll Y s (itv A q) m := fun pins σ H F v u sh I S r rv => by
  obtain ⟨r1, p, ev, hp⟩ := r
  subst ev
  cases rv
  obtain ⟨q', kvs, eq, hd, rk⟩ := h σ H F (.ref q) S r1
  cases eq
  have view : sh.heap.IsItemsView p q := (show ObjOk Y.X.prog Y.X.w H sh.heap p (L2.DX.itemsO p q) from I.hok p _ (S.ext _ _ hp)).1
  obtain ⟨hz, lo, vs, kv, hdo⟩ := dk_rd I.hok hd
  obtain ⟨ep, hat⟩ := hdo.dictAt
  have lk : kvs.length = vs.length := Paired.length kv
  refine ⟨p, rfl, fun R E k => PySem.W.kdx_collect (A := Y.X.A.in1) (knd := mixKind Y.X.prog Y.X.w) (kvs := vs) (ep := ep) (I.ok.hd hc) view hat (by omega) fun h' tk as hk hl hG => ?_⟩
  have nd : as.Nodup := List.Pairwise.imp (fun {a b} (h : a < b) => Nat.ne_of_lt h) hG.rise
  have new : ∀ t ∈ as, sh.heap.objs.size ≤ t ∧ H t = none := fun t ht => ⟨Nat.le_of_lt (hG.above t ht), I.hok.fresh (Nat.le_of_lt (hG.above t ht))⟩
  have pr : Paired (fun (a : Addr) (p : Key × V) => ∃ key x, h'.get? a = some { cls := .type "tuple", data := .seq #[key, x] } ∧ RelV (kV p.1) key ∧ RelV p.2 x) as kvs := by
    have gen : ∀ (as : List Addr) (kvs : List (Key × V)) (i : Nat), as.length = kvs.length → (∀ (j : Nat) (a : Addr), as[j]? = some a → ∃ key k x, vs[i + j]? = some (k, x) ∧ (mixKind Y.X.prog Y.X.w).is k key = true ∧ h'.get? a = some { cls := .type "tuple", data := .seq #[key, x] }) →
        (∀ (j : Nat) (p : Key × V), kvs[j]? = some p → ∃ y : Key × Value, vs[i + j]? = some y ∧ p.1 = y.1 ∧ RelV p.2 y.2) → Paired (fun (a : Addr) (p : Key × V) => ∃ key x, h'.get? a = some { cls := .type "tuple", data := .seq #[key, x] } ∧ RelV (kV p.1) key ∧ RelV p.2 x) as kvs := by
      intro as
      induction as with
      | nil =>
        intro kvs i hl _ _
        cases kvs with
        | nil => exact .nil
        | cons p r => cases hl
      | cons a as ih =>
        intro kvs i hl h1 h2
        cases kvs with
        | nil => cases hl
        | cons p r =>
          obtain ⟨key, k, x, f1, f2, f3⟩ := h1 0 a rfl
          obtain ⟨y, g1, g2, g3⟩ := h2 0 p rfl
          rw [f1] at g1
          cases g1
          refine .cons ⟨key, x, f3, ?_, g3⟩ (ih r (i + 1) (by simpa using hl) (fun j b hj => ?_) fun j b hj => ?_)
          · rw [g2]; exact relV_key (show keyIs k key = true from f2)
          · have := h1 (j + 1) b (by simpa using hj)
            rwa [show i + (j + 1) = i + 1 + j by omega] at this
          · have := h2 (j + 1) b (by simpa using hj)
            rwa [show i + (j + 1) = i + 1 + j by omega] at this
    refine gen as kvs 0 (by omega) (fun j a hj => ?_) fun j p hj => ?_
    · rw [Nat.zero_add]; exact hG.pairs j a hj
    · rw [Nat.zero_add]
      obtain ⟨y, g1, g2, g3⟩ := LiI.paired_get kv hj
      exact ⟨y, g1, g2, g3⟩
  have J := track_all I pr H (I.kept (t' := tk) hk) nd new
  have off : ∀ b, b ∉ as → LiI.putT H as kvs b = H b := fun b hb => LiI.putT_off as kvs H hb
  have keep : ∀ b o, H b = some o → LiI.putT H as kvs b = some o := fun b o e => by
    rw [off b (fun z => by rw [(new b z).2] at e; cases e)]; exact e
  have atP := LiI.putT_at as kvs H (by omega) nd
  obtain ⟨S2, eF⟩ := S.growAll keep as fun a ha => by
    obtain ⟨j, y, _, _, e3⟩ := LiI.paired_ix atP ha
    exact ⟨(new a ha).2, _, e3, rfl⟩
  refine k _ h' tk _ _ (as.map V.ref) J keep eF S2 (LiI.vals_refs as) (pair_vs eF (fun t ht => ?_) as kvs m (fun _ h => h) atP rk) (by rw [List.length_map]; omega)
  show (if t ∈ as then _ else _) = _
  rw [if_pos ht]
theorem k_items {W : (List (κ × ν) → Prop) → Prop} {apos cpos : Pos} (ok : YOk Y) (h : EvD Y s e W) (hbase : attributeBase e "items" Y.X.env (eval e Y.X.env) = eval e Y.X.env := by exact ab_ok rfl) (hline : (apos.endLine == cpos.line) = true := by rfl) :
    EvKl Y s (.Call (.Attribute e "items" apos) [] [] cpos) fun k => W fun m => k m := fun k w F0 σ H F e0 S => by
  refine ⟨fun pins sh I => ?_⟩
  refine wpAny_Call_method (T := "dict") (id := "dict.items") hbase rfl hline PySem.F.plainAttrs_dict PySem.F.slot_dict_items PySem.F.type_dict_items (thn ((h _ w F0 σ H F e0 S).run pins sh I) fun u s1 ⟨x, H1, I1, rx, A, s', F1, e1, rA, S1, m, hA, es, q⟩ => ?_)
  subst es
  obtain ⟨d, kvs, ev, hd, rk⟩ := hA σ H1 F1 x S1 rA
  subst ev
  obtain rfl : u = Value.ref d := rx
  obtain ⟨hz, hs0, vs, kv, hdo⟩ := dk_rd I1.hok hd
  refine ⟨hdo.typeIs, hdo.mapOf.noDict, ?_⟩
  show wpAny _ _ (callWith cpos (.builtin "dict.items") [.ref d] [] []) _ Y.X.xe s1
  refine method_meetsIn PySem.F.slot_dict_items PySem.F.entry_dict_items rfl (PySem.evalArgs_none ⟨rfl, hdo.typeIs, PySem.F.args_dict_items_1 _, _, meets_dict_items (mixKind Y.X.prog Y.X.w) d hs0, ⟨vs, hdo⟩, ?_⟩)
  have hn := I1.hok.fresh (Nat.le_refl _)
  refine ⟨.ref s1.heap.objs.size, upd H1 s1.heap.objs.size (L2.DX.itemsO s1.heap.objs.size d), I1.laid (t' := s1.toks) (fun b u e => Heap.get?_push_of_some _ e) (Nat.le_refl _) (L2.DX.itemsO_ok (Heap.get?_push_size _ rfl)), rfl, ?_⟩
  exact ⟨itv A d, s', _, e1.trans (Ext.grow (S1.free hn)), ⟨A.mono rA (Ext.grow (S1.free hn)), _, rfl, upd_same⟩, S1.newF hn rfl, m, coll_items ok.calm hA, rfl, q⟩
end
theorem YE.key {Y : DX} {k : Nat} {scope : Scope} {z : LCx} {F : Hp} {gs : Gs} (o : YOk (keyY Y k scope z F gs)) : YE (keyY Y k scope z F gs) (fun _ => True) NoE := ⟨o, fun _ _ _ h => h.elim⟩
section
variable {K : Frag}
theorem nox_nil : NoX K [] := fun p hp => nomatch hp
end
end Sp
set_option maxHeartbeats 4000000
namespace Sp
open PySem L2
open PySem.W (Datum DatumOrd SomeDatum)
section
variable {X : Cx}
end
section
variable {Y : DX} {s : DSt} {e a b : Expr} {pos p apos : Pos} {W : (List Bool → Prop) → Prop}
end
end Sp
set_option maxHeartbeats 4000000
namespace Sp
open PySem L2 PyProof.Rows
structure WST (X : Cx) (st : List Stmt) (σ : L2.St) (H : Hp) (D : Ends) : Prop where
  run : ∀ (pins : List (Addr × Obj)) (s : Shared), 1 ≤ s.toks → Inv X pins σ H s → wpAny (model X.prog X.w) X.A (execs st X.env) (SP X pins D) X.xe s
section
variable {P : Program} {w : World} {K : Frag} {mg : Str → Option Value} {base : Heap}
def WsT (Y : DX) (s : DSt) (sts : List Stmt) (D : DE) : Prop := ∀ F0 σ H F, Ext F0 F → Sta Y s σ H F → WST Y.X sts σ H (D.to Y F0)
theorem WST.imp {X : Cx} {st : List Stmt} {σ : L2.St} {H : Hp} {D D' : Ends} (h : WST X st σ H D) (k1 : ∀ σ' H', D.nx σ' H' → D'.nx σ' H') (k2 : ∀ v H', D.rt v H' → D'.rt v H') (k3 : ∀ σ' H', D.bk σ' H' → D'.bk σ' H') (k4 : ∀ σ' H', D.ct σ' H' → D'.ct σ' H') : WST X st σ H D' :=
  ⟨fun pins s h0 I => thn (h.run pins s h0 I) fun f s' q => by
    match f, q with
    | .next, ⟨σ', H', J, q⟩ => exact ⟨σ', H', J, k1 _ _ q⟩
    | .brk, ⟨σ', H', J, q⟩ => exact ⟨σ', H', J, k3 _ _ q⟩
    | .cont, ⟨σ', H', J, q⟩ => exact ⟨σ', H', J, k4 _ _ q⟩
    | .ret u, ⟨v, σ', H', J, r, q⟩ => exact ⟨v, σ', H', J, r, k2 _ _ q⟩⟩
theorem WsT.mono {Y : DX} {s : DSt} {sts : List Stmt} {D D' : DE} (h : WsT Y s sts D) (k1 : ∀ s, D.nx s → D'.nx s) (k2 : ∀ A s, D.rt A s → D'.rt A s) (k3 : ∀ s, D.bk s → D'.bk s) (k4 : ∀ s, D.ct s → D'.ct s) : WsT Y s sts D' := fun F0 σ H F e0 S =>
  (h F0 σ H F e0 S).imp (fun _ _ q => Pst.mono q (.refl _) k1) (fun _ _ q => Prt.mono q (.refl _) k2) (fun _ _ q => Pst.mono q (.refl _) k3) (fun _ _ q => Pst.mono q (.refl _) k4)
variable {fa : List He.Fa} {fn : List He.DefD} {tq : TQ}
end
end Sp
set_option maxHeartbeats 4000000
namespace Sp
open PySem L2
open PySem.W (Datum DatumOrd SomeDatum)
end Sp
set_option maxHeartbeats 4000000
namespace Sp
open PySem L2 PySem.Calls PyProof.Rows
open PySem.W (Datum DatumOrd SomeDatum EachIs)
section
variable {prog : Program} {w : World} {A : Around} {E : Value → Shared → Prop} {s : Shared}
end
section
variable {Y : DX} {s : DSt} {a : Expr} {p pos : Pos} {α : Type} [DecidableEq α] [Enc α] [DatumOrd α] [Dat α] [Srtb α]
end
end Sp
set_option maxHeartbeats 4000000
namespace Sp
open PySem L2 PySem.Calls PyProof.Rows
open PySem.W (Frag Datum DatumOrd SomeDatum)
structure TupN (α : Type) where
  tup : Tup α
instance {α : Type} [Enc α] : Enc (TupN α) := ⟨fun K F v x => ∃ p o vs, v = .ref p ∧ F p = some (.frz o (.tup vs)) ∧ o.dict = none ∧ Vs K F vs x.tup.items,
  fun ⟨p, o, vs, h1, h2, h3, h4⟩ e => ⟨p, o, vs, h1, e _ _ h2, h3, h4.mono e⟩⟩
instance {α : Type} : Inhabited (TupN α) := ⟨⟨⟨[]⟩⟩⟩
section
variable {X : Cx}
theorem call_tuple_N : CallR X (.type "tuple") (fun xs H Q => ∃ p ys, xs = [.ref p] ∧ SqL X.K H p ys ∧ ∀ l o, H l = none → o.dict = none → Q (.ref l) (upd H l (.frz o (.tup ys)))) := by
  intro pins s σ H xs us Q I r h
  obtain ⟨p, ys, rfl, hq, q⟩ := h
  obtain ⟨u, rfl, rx⟩ := vals1 r
  cases rx
  obtain ⟨its, r', pl, hz⟩ := I.list hq
  have hlen := r'.length
  refine call_tuple_list pl.isList (fun h' kp => ?_) (by simp only [List.size_toArray] <;> omega)
  have I1 : Inv X pins σ H { s with heap := h' } := I.kept (t' := s.toks) kp
  have I2 : Inv X pins σ (upd H h'.objs.size (.frz { cls := .type "tuple", data := .seq its.toArray } (.tup ys))) { s with heap := h'.push { cls := .type "tuple", data := .seq its.toArray } } :=
    I1.laid (t' := s.toks) (fun b o e => Heap.get?_push_of_some _ e) (Nat.le_refl _) (show ObjOk X.prog X.w _ _ _ (.frz _ (.tup ys)) from ⟨Heap.get?_push_size _ rfl, hz, its, r', IsTup.new _ _⟩)
  exact ⟨.ref h'.objs.size, _, I2, rfl, q _ _ (I1.hok.fresh (Nat.le_refl _)) rfl⟩
theorem pairs_ofU {pins : List (Addr × Obj)} {σ : L2.St} {H : Hp} {s : Shared} (I : L2.Inv X pins σ H s) : ∀ {ps : List Addr} {kvs : List (Key × V)}, Paired (fun p kv => SqT X.K H p [kV kv.1, kv.2]) ps kvs →
    ∃ prs : List (Key × Value × Value), KV kvs (prs.map fun q => (q.1, q.2.2)) ∧ prs.length = ps.length ∧ ∀ (j : Nat) (q : Key × Value × Value), prs[j]? = some q → ∃ b : Addr, ps[j]? = some b ∧ IsTup s.heap b #[q.2.1, q.2.2] ∧ keyIs q.1 q.2.1 = true
  | _, _, .nil => ⟨[], .nil, rfl, fun j q e => by simp at e⟩
  | _, _, .cons (a := p) (b := kv) h t => by
    obtain ⟨prs, r, hl, hp⟩ := pairs_ofU I t
    obtain ⟨its, rv, ht, _⟩ := I.tuple h
    obtain ⟨u, y, ei, ru, ry⟩ := vals2 rv
    subst ei
    refine ⟨(kv.1, u, y) :: prs, .cons ⟨rfl, ry⟩ r, by rw [List.length_cons, List.length_cons, hl], fun j q e => ?_⟩
    cases j with
    | zero =>
      have e' : (kv.1, u, y) = q := Option.some.inj e
      subst e'
      exact ⟨p, rfl, ht, kV_is (P := X.prog) (w := X.w) ru⟩
    | succ j =>
      obtain ⟨b, e1, e2, e3⟩ := hp j q (by simpa using e)
      exact ⟨b, by simpa using e1, e2, e3⟩
theorem call_dictU (hcalm : X.calm = true) : CallR X (.type "dict") (fun xs H Q => ∃ (a : Addr) (o : Obj) (ps : List Addr) (kvs : List (Key × V)), xs = [.ref a] ∧ H a = some (.frz o (.tup (ps.map V.ref))) ∧ o.dict = none ∧ Paired (fun p kv => SqT X.K H p [kV kv.1, kv.2]) ps kvs ∧
    ∀ p, H p = none → Q (.ref p) (upd H p (.dK (mergeK [] kvs)))) := by
  intro pins s σ H xs us Q I r q
  obtain ⟨a, o, ps, kvs, ex, hq, hd, hp, q⟩ := q
  subst ex
  obtain ⟨u, eu, rx⟩ := vals1 r
  subst eu
  cases rx
  obtain ⟨ho, hz, its, rv, o', ho', hc, n, hdat⟩ := I.hok _ _ hq
  rw [ho] at ho'
  cases ho'
  have ei := refs_at rv
  subst ei
  rw [List.length_map] at hz
  obtain ⟨prs, rel, hl, hpr⟩ := pairs_ofU I hp
  refine PySem.call_dict_pairs (knd := mixKind X.prog X.w) (kvs := prs.map fun q => (q.1, q.2.2)) (PairArg.tuple a (ps.map Value.ref).toArray (fun j => ps.getD j 0) (prs.map fun q => q.2)) (I.ok.hd hcalm) ⟨⟨o, n, ho, hc, hd, hdat⟩, ?_, fun j k v e => ?_⟩ ⟨by simp, fun i key v e => ?_⟩ (by rw [List.length_map, hl]; exact hz) fun h' tk dd k => ?_
  · simp [hl]
  · rw [List.getElem?_map] at e
    obtain ⟨x, e1, e2⟩ := Option.map_eq_some_iff.mp e
    obtain ⟨x1, x2, x3⟩ := x
    dsimp only at e2
    injection e2 with e3 e4
    subst e3 e4
    obtain ⟨t, t1, t2, _⟩ := hpr j _ e1
    have eg : ps.getD j 0 = t := by rw [List.getD_eq_getElem?_getD, t1]; rfl
    refine ⟨by simp [t1], ?_⟩
    show PairAt _ (ps.getD j 0) _ _
    rw [eg]
    exact .inl t2
  · have e' : (prs.map fun q => q.2)[i]? = some (key, v) := e
    rw [List.getElem?_map] at e'
    obtain ⟨x, e1, e2⟩ := Option.map_eq_some_iff.mp e'
    obtain ⟨x1, x2, x3⟩ := x
    dsimp only at e2
    injection e2 with e3 e4
    subst e3 e4
    obtain ⟨t, _, _, t3⟩ := hpr i _ e1
    exact ⟨x1, by simp [e1], t3⟩
  · have hm : (s.heap.objs.size == sysModules) = false := beq_eq_false_iff_ne.mpr (Nat.ne_of_gt I.big)
    have hlen : (mergeK [] kvs).length ≤ sizeLine := by
      refine Nat.le_trans (length_mergeK kvs []) ?_
      rw [List.length_nil, Nat.zero_add, rel.length, List.length_map, hl]
      exact hz
    exact ⟨.ref s.heap.objs.size, upd H s.heap.objs.size (.dK (mergeK [] kvs)), I.laid (t' := tk) (fun b o e => k b o (by simp) e) (Nat.le_refl _) (show ObjOk X.prog X.w _ _ _ (.dK (mergeK [] kvs)) from ⟨hlen, hm, merged [] (prs.map fun q => (q.1, q.2.2)), KV.merge rel .nil, dd⟩), rfl, q _ (I.hok.fresh (Nat.le_refl _))⟩
end
section
variable {Y : DX} {s : DSt} {e a b c o tg iter elt : Expr} {es ifs : List Expr} {pos p p2 apos : Pos} {α β : Type} [Enc α] [Enc β]
theorem c_tupN {W : (List α → Prop) → Prop} (T : Bis Y.X.mg) (hg : Gl Y.X "tuple") (ha : EvL Y s a W) (he : starEach [a] Y.X.env = (false, eval a Y.X.env) :: starEach [] Y.X.env := by exact star_c rfl) : EvC Y s (.Call (.Name "tuple" p) [a] [] pos) fun k => W fun xs => k (TupN.mk (PySem.W.Tup.mk xs)) := fun k w =>
  ev_T1 call_tuple_N hg (T.no _ (by decide)) PyProof.Rows.boot_tuple (ha.q w fun A xs hA w F0 σ H F v e0 S r => by
    obtain ⟨q, zs, h1, h2, h3⟩ := hA σ H F v S r
    exact ⟨q, zs, by rw [h1], h2, fun l ob hl hd => ⟨pu (TupN.mk (PySem.W.Tup.mk xs)), s, upd F l (.frz ob (.tup zs)), e0.trans (Ext.grow (S.free hl)), ⟨l, ob, zs, rfl, upd_same, hd, h3.mono (Ext.grow (S.free hl))⟩, S.newF hl rfl, _, rfl, rfl, w⟩⟩) (by decide) (by decide) he
theorem rep_tupN {K : Frag} {F : Hp} {v : V} {x : TupN α} (h : Enc.rep K F v x) : Enc.rep K F v x.tup := by
  obtain ⟨p, o, vs, h1, h2, h3, h4⟩ := h
  exact ⟨p, vs, h1, .inl (.inr ⟨o, h2⟩), h4⟩
theorem c_ofN {W : (TupN α → Prop) → Prop} (ha : EvC Y s a W) : EvC Y s a fun k => W fun x => k x.tup := fun k w F0 σ H F e0 S =>
  (ha _ w F0 σ H F e0 S).mono fun v H1 ⟨A, s', F1, e1, r1, S1, x, ea, es, w⟩ => by
    subst ea
    exact ⟨pu x.tup, s', F1, e1, rep_tupN r1, S1, _, rfl, es, w⟩
end
section
variable {Y : DX} {s : DSt} {a : Expr} {pos p : Pos} {κ ν : Type} [DecidableEq κ] [Kk κ] [Enc κ] [KkV κ] [Enc ν]
theorem c_dictU {W : (TupN (κ × ν) → Prop) → Prop} (ok : YOk Y) (T : Bis Y.X.mg) (hg : Gl Y.X "dict") (ha : EvC Y s a W) (he : starEach [a] Y.X.env = (false, eval a Y.X.env) :: starEach [] Y.X.env := by exact star_c rfl) : EvC Y s (.Call (.Name "dict" p) [a] [] pos) fun k => W fun x => k (Dct.mk (dmerge [] x.tup.items)) := fun k w F0 σ H F e0 S => by
  refine .lockAfter (.of (pe_callTy (call_dictU ok.calm) hg (T.no _ (by decide)) PyProof.Rows.boot_dict (pa_cons pe_we pa_nil he) (by decide) (by decide) he (by rfl)) ?_)
  refine (ha _ w F0 σ H F e0 S).mono fun v H1 ⟨A, s1, F1, e1, r1, S1, x, ea, es, w⟩ => ?_
  subst ea es
  obtain ⟨q, ob, zs, h1, h2, hd, h3⟩ := r1
  obtain ⟨ps, kvs, g1, g2, g3⟩ := pairs_kvs h3
  subst g1
  exact ⟨q, ob, ps, kvs, by rw [h1], S1.ext _ _ h2, hd, Paired.mapP g2 fun _ _ z => sqT_ext z S1.ext, fun l hl => po_lock e1 S1 (kvs_merge g3 .nil) w l hl⟩
end
end Sp
set_option maxHeartbeats 4000000
namespace Sp
open PySem L2
open PySem.W PySem.Calls PyProof.Rows
section
variable {Y : DX} {s : DSt} {e a b c : Expr} {es : List Expr} {pos p : Pos} {D : DE} {st : Stmt} {sts : List Stmt} {α : Type} [Enc α]
end
def wxS (Y : DX) (Gd : DSt → Prop) (E : Ex → Prop) : WX := fun cls d σ H => ∃ e s F, Sta Y s σ H F ∧ ExcRep (exK Y.X.K e) cls d H ∧ Gd s ∧ E e
structure YN (Y : DX) (Gd : DSt → Prop) (E : Ex → Prop) : Prop where
  tk : L2N.Takes Y.X (wxS Y Gd E)
section
variable {Y : DX} {s : DSt} {e a b c : Expr} {es : List Expr} {pos p : Pos} {D : DE} {st : Stmt} {sts : List Stmt} {α : Type} [Enc α]
structure DfN (P : Program) (w : World) (K : Frag) (mg : Str → Option Value) (base : Heap) (T : Tb) (k : Nat) (x : Str) (ps : List Str) (d : DSp) : Prop where
  ex : ∃ (f : Addr) (fd : FuncData), FnOk P w K mg base (L2N.CX P w) k f fd ps (toSp K T ps.length d) ∧ mg x = some (.ref f) ∧ PySem.W.keepIn K (.ref f) = true ∧ Binds K fd ps []
  mono : DMono d
end
section
variable {P : Program} {w : World} {K : Frag} {mg : Str → Option Value} {base : Heap} {fa : List He.Fa} {fn : List He.DefD} {tq : TQ}
end
section
variable {Y : DX} {s : DSt} {e a b c : Expr} {es : List Expr} {pos p : Pos} {D : DE} {st : Stmt} {sts : List Stmt} {α : Type} [Enc α]
end
end Sp
set_option maxHeartbeats 4000000
namespace Sp
open PySem L2
open PySem.W PySem.Calls PyProof.Rows
structure FnD where
  qual : Str
  params : Arguments
  body : Expr
  scope : Scope
  cl : List (Str × Addr)
  c : Addr
def LmO (f : Addr) (d : FnD) : HO := .ext fun h => ∃ pm ctv : Value, h.get? f = some (PySem.W.kla_obj "<lambda>" d.qual d.params d.body d.scope d.cl pm d.c ctv)
instance : Enc FnD := ⟨fun _ F v d => ∃ f, v = .ref f ∧ F f = some (LmO f d), fun ⟨f, h1, h2⟩ e => ⟨f, h1, e _ _ h2⟩⟩
section
variable {X : Cx} {pins : List (Addr × Obj)} {σ : L2.St} {H : Hp} {s : Shared}
end
section
variable {Y : DX} {s : DSt} {e : Expr} {es : List Expr} {pos p : Pos} {D : DE} {sts : List Stmt}
end
end Sp
set_option maxHeartbeats 4000000
namespace Sp
open PySem L2
open PySem.W PySem.Calls PyProof.Rows
def clsVal : V → Value
  | .ref a => .ref a
  | .ty n => .type n
  | _ => .none
inductive IsEs (mg : Str → Option Value) (sg : Scope) (n : Str) : List Expr → List V → Prop
  | nil : IsEs mg sg n [] []
  | own {cn : Str} {p1 p2 p3 p4 : Pos} {C : Addr} {es : List Expr} {cs : List V} (hg : sg.names.lookup cn = some .globalImplicit) (hdb : (cn == ("__debug__" : Str)) = false) (hv : mg cn = some (.ref C)) (t : IsEs mg sg n es cs) : IsEs mg sg n (.Call (.Name "isinstance" p1) [.Name n p2, .Name cn p3] [] p4 :: es) (.ref C :: cs)
  | blt {cn : Str} {p1 p2 p3 p4 : Pos} {T : String} {es : List Expr} {cs : List V} (hg : sg.names.lookup cn = some .globalImplicit) (hdb : (cn == ("__debug__" : Str)) = false) (hv : mg cn = none) (hb : bootBuiltins cn = some (.type T)) (hn : cn ≠ "__name__") (t : IsEs mg sg n es cs) : IsEs mg sg n (.Call (.Name "isinstance" p1) [.Name n p2, .Name cn p3] [] p4 :: es) (.ty T :: cs)
abbrev KitB (K : Frag) (D : Addr) : List V → List Bool → Prop := Paired fun c b => kitOne K (.ref D) (clsVal c) = some b
def UndE (K : Frag) (SF : Addr) (c1 c2 c3 : List V) (cls : Value) (d : Option Addr) (H' : Hp) (Q : VK) : Prop := ∃ (D : Addr) (b1 b2 b3 : List Bool), cls = .ref D ∧ exmOne K (.ref D) (.ref SF) = some true ∧ L2.ExcC K D ∧ KitB K D c1 b1 ∧ KitB K D c2 b2 ∧ KitB K D c3 b3 ∧ (∀ dd, d = some dd → ∃ fs, H' dd = some (.xd fs)) ∧
  ∀ p H2, (∀ b o, H' b = some o → H2 b = some o) → H2 p = none → Q (.ref p) (upd H2 p (.lst ((b1 ++ b2 ++ b3).map V.bl)))
def TTu (K : Frag) (SF : Addr) (c1 c2 c3 : List V) : (XK → Hp → VK → Prop) → Hp → VK → Prop := fun tl H Q =>
  tl (fun cls d H' => UndE K SF c1 c2 c3 cls d H' Q) H (fun _ H' => ([] : List V).length ≤ sizeLine ∧ ∀ p, H' p = none → Q (.ref p) (upd H' p (.lst [])))
structure UnderD (X : Cx) (x : Str) (SF : Addr) (c1 c2 c3 : List V) : Prop where
  ex : ∃ (a : Str) (g : Addr) (pg : Arguments) (bg : List Stmt) (sg : Scope) (dV kV doc pm cdv ct oc : Value) (an od : Option Addr) (osl : Array (Option Value)) (Ng : List Str),
    X.mg x = some (.ref g) ∧ PySem.W.keepIn X.K (.ref g) = true ∧ X.K.lookup g = some ⟨oc, od, .func (PySem.W.fnOf x x pg bg sg dV kV doc pm an cdv ct), osl⟩ ∧ PySem.W.codeIn X.K cdv x = true ∧
    L2.Binds X.K (PySem.W.fnOf x x pg bg sg dV kV doc pm an cdv ct) [a] [] ∧ FnScope Ng [a] sg ∧ Ng[0]? = some a ∧ Vis sg a ∧ (a == ("__debug__" : Str)) = false ∧ (a == ("__classdict__" : Str)) = false ∧
    ∀ q, LamX.GivesTo X Ng x sg g cdv bg a q (TTu X.K SF c1 c2 c3)
end Sp
set_option maxHeartbeats 4000000
namespace Sp
open PySem L2
open PySem.W PySem.Calls PyProof.Rows
section
variable {X : Cx} {pins : List (Addr × Obj)} {σ : L2.St} {H HZ : Hp} {s s1 : Shared}
end
instance : Inhabited FnD := ⟨⟨"", ⟨[], [], none, [], [], none, []⟩, .Constant .none 0 ⟨0, 0, 0, 0⟩, default, [], 0⟩⟩
section
variable {Y : DX} {s : DSt} {e a b : Expr} {es : List Expr} {pos p : Pos}
end
end Sp
set_option maxHeartbeats 4000000
namespace Sp
open PySem L2
open PySem.W PySem.Calls PyProof.Rows
section
variable {Y : DX} {s : DSt} {e a b : Expr} {es : List Expr} {pos p : Pos} {G0 : Gs → Prop} {E : Ex → Prop} {ps : List Str} {j : Nat}
end
end Sp
set_option maxHeartbeats 4000000
namespace PySem
namespace ZipS
open Sem (wp)
open Builtin Builtin.Str
section
variable {prog : Program} {w : World} {A : Around} {E : Value → Shared → Prop} {s : Shared}
end
abbrev sIt (x : Str) (t : Tok) : Obj := { cls := .type (strIterType x), data := .fields #[.str x t, .int 0 0] }
abbrev H1 (h : Heap) (x : Str) (t : Tok) : Heap := h.push (sIt x t)
abbrev H2 (h : Heap) (x y : Str) (t u : Tok) : Heap := (H1 h x t).push (sIt y u)
abbrev H3 (h : Heap) (x y : Str) (t u : Tok) : Heap := (H2 h x y t u).push { cls := .type "tuple", data := .seq #[.ref h.objs.size, .ref (H1 h x t).objs.size] }
abbrev H4 (h : Heap) (x y : Str) (t u : Tok) : Heap := (H3 h x y t u).push { cls := .type "tuple", data := .seq #[.none, .none] }
abbrev H5 (h : Heap) (x y : Str) (t u : Tok) : Heap := (H4 h x y t u).push { cls := .type "zip", data := .fields #[.none, .bool false, .bool false, .ref (H2 h x y t u).objs.size, .ref (H3 h x y t u).objs.size] }
theorem meets_new (x y : Str) (t u : Tok) :
    Meets (Builtin.«zip.__new__» ⟨[.type "zip", .str x t, .str y u], []⟩) (fun _ R s => R (.ok (.ret (.ref (H4 s.heap x y t u).objs.size))) { s with heap := H5 s.heap x y t u }) :=
  .of_wp fun prog w A R s h => by
    obtain ⟨hp, g, d, tk, os⟩ := s
    have hsub := sub_zip
    wp_walk using wpAny_pyIter_strU
    exact ⟨_, rfl, h⟩
section
variable {prog : Program} {w : World} {A : Around} {E : Value → Shared → Prop} {s : Shared}
end
end ZipS
end PySem
set_option maxHeartbeats 4000000
namespace Sp
open PySem PySem.Spec PyProof.Rows L2
open PySem.W (Datum DatumOrd SomeDatum)
section
variable {Y : DX} {s : DSt} {e a b c o : Expr} {es : List Expr} {pos p tpos : Pos}
end
end Sp
set_option maxHeartbeats 4000000
namespace HN
open PySem PySem.Spec PyProof.Rows PySem.SeqAt
section
variable {M : Model} {prog : Program} {w : World} {A : Around} {E : Value → Shared → Prop} {s : Shared} {K : PySem.W.Frag} {x y C : Addr} {ox oy : Obj} {od ody : Option Obj}
end
end HN
namespace Sp
open PySem PySem.Spec PyProof.Rows L2
open PySem.W (Datum DatumOrd SomeDatum)
class Inj (α : Type) [Enc α] : Prop where
  inj : ∀ {K F} {v : V} {x y : α}, Enc.rep K F v x → Enc.rep K F v y → x = y
instance : Inj Int := ⟨fun h1 h2 => by rw [h1] at h2; cases h2; rfl⟩
instance : Inj Bool := ⟨fun h1 h2 => by rw [h1] at h2; cases h2; rfl⟩
instance : Inj (List Nat) := ⟨fun {K F v x y} h1 h2 => by
  have e : V.str (toStr x) = V.str (toStr y) := h1.symm.trans h2
  exact toStr_inj (V.str.inj e)⟩
section
variable {Y : DX} {s : DSt} {e a b c o : Expr} {es : List Expr} {pos p apos cpos : Pos}
section
variable {κ ν : Type} [DecidableEq κ] [Kk κ] [Enc κ] [KkV κ] [Enc ν]
end
section
variable {κ ν : Type} [DecidableEq κ] [Kt κ] [Enc κ] [KtV κ] [Enc ν]
end
end
end Sp
set_option maxHeartbeats 4000000
namespace Sp
open PySem L2
open PySem.W (Datum DatumOrd SomeDatum)
section
variable {o : Expr} {p pos apos cpos : Pos}
end
section
variable {Y : DX} {s : DSt} {o : Expr} {p pos apos cpos : Pos} {κ ν : Type} [DecidableEq κ] [Kk κ] [Enc κ] [KkV κ] [Enc ν]
end
end Sp
set_option maxHeartbeats 4000000
namespace Sp
open PySem L2
open PySem.W (Datum DatumOrd SomeDatum)
theorem fr_chg {K : Frag} {F : Hp} {f : Str} {A : Pv} {vs : List (Str × V)} {fs : Flds} (h : FR K F vs fs) (r : ∀ v, vs.lookup f = some v → A.rep K F v) (hf : (fs.lookup f).isSome = true) : FR K F vs (fput f A fs) := by
  induction h with
  | nil => cases hf
  | @cons p q vs fs r1 t ih =>
    obtain ⟨g, x⟩ := p
    obtain ⟨g', B⟩ := q
    have e : g = g' := r1.1
    subst e
    unfold fput
    rw [List.lookup_cons] at hf
    by_cases z : g = f
    · rw [if_pos z]
      exact .cons ⟨rfl, r x (by rw [List.lookup_cons, show (f == g) = true from beq_iff_eq.mpr z.symm])⟩ t
    · have z2 : (f == g) = false := beq_eq_false_iff_ne.mpr (Ne.symm z)
      rw [if_neg z]
      rw [z2] at hf
      exact .cons r1 (ih (fun v hv => r v (by rw [List.lookup_cons, z2]; exact hv)) hf)
theorem upd_self {H : Hp} {p : Addr} {o : HO} (h : H p = some o) : upd H p o = H := by
  funext a
  by_cases z : a = p
  · rw [z, upd_same, h]
  · rw [upd_ne z]
section
variable {Y : DX} {s : DSt} {e a b c d o : Expr} {sts : List Stmt} {pos p p2 apos : Pos} {D : DE} {C : Addr} {fs : Flds} {q q2 : Addr} {f x : Str}
section
variable {κ ν : Type} [DecidableEq κ] [Kk κ] [Enc κ] [KkV κ] [Enc ν] {m : List (κ × ν)}
theorem s_fldM {W : (List (κ × ν) → Prop) → Prop} {R : List (κ × ν) → Prop} {pn : Pos} (i g : Nat) (c : Cls Y.X.K C) (nn : NoAttr Y.X.K C f) (hN : Y.X.N[i]? = some x) (hρ : s.ρ[i]? = some (some (raw (.ref q)))) (hg : s.gs[g]? = some (q, insc C fs)) (he : EvM Y s e W) (next : ∀ q2 v, R v → Ws Y ⟨s.ρ, (q2, dctc v) :: s.gs.set g (q, insc C (fput f (raw (.ref q2)) fs))⟩ sts D) (w : W R) (hl : fs.length < 1000 := by decide)
    (hv : Vis Y.X.env.scope x := by first | exact .inl rfl | exact .inr (.inl rfl) | exact .inr (.inr rfl)) (hd : (x == ("__debug__" : Str)) = false := by decide) (hcd : (x == ("__classdict__" : Str)) = false := by decide) (hs : swapsWith e (some (.Attribute (.Name x pn) f p2)) pos.line Y.X.env = pure false := by rfl) : Ws Y s (.Assign [.Attribute (.Name x pn) f p2] e pos :: sts) D :=
  ws_cons (w1_fld (g + 1) c nn hl (he.q w fun q2 v r => ⟨hg, evp_v i hN hρ hv hd hcd, next q2 v r⟩) hs)
theorem s_fput {pn pa ps : Pos} (i gi g : Nat) (c : Cls Y.X.K C) (nn : NoAttr Y.X.K C f) (ok : YOk Y) {b : Expr} {W : (ν → Prop) → Prop} {Wk : (κ → Prop) → Prop} (hN : Y.X.N[i]? = some x) (hρ : s.ρ[i]? = some (some (raw (.ref q)))) (hi : s.gs[gi]? = some (q, insc C fs)) (l : fs.lookup f = some (raw (.ref q2))) (hg : s.gs[g]? = some (q2, dctc m)) (he : EvC Y s e W) (hb : EvC Y s b Wk) {R : List (κ × ν) → Prop} (next : ∀ v, R v → Ws Y ⟨s.ρ, s.gs.set g (q2, dctc v)⟩ sts D) (w : W fun v => Wk fun k => m.length < sizeLine ∧ R (dput m k v))
    (hv : Vis Y.X.env.scope x := by first | exact .inl rfl | exact .inr (.inl rfl) | exact .inr (.inr rfl)) (hd : (x == ("__debug__" : Str)) = false := by decide) (hcd : (x == ("__classdict__" : Str)) = false := by decide)
    (hab : attributeBase (.Name x pn) f Y.X.env (eval (.Name x pn) Y.X.env) = eval (.Name x pn) Y.X.env := by exact ab_ok rfl)
    (hs : swapsWith e (some (.Subscript (.Attribute (.Name x pn) f pa) b ps)) pos.line Y.X.env = pure false := by rfl) : Ws Y s (.Assign [.Subscript (.Attribute (.Name x pn) f pa) b ps] e pos :: sts) D := ws_cons fun F0 σ H F e0 S => by
  refine .of (ps_dput (by have := ok.room.units; omega) pe_we pe_we pe_we hs) ?_
  refine (he _ w F σ H F (.refl _) S).mono fun v H1 ⟨_, _, F1, e1, r1, S1, y, ey, es, w⟩ => ?_
  subst ey es
  refine (evp_fld (pos := pa) c nn (evp_v (pos := pn) i hN hρ hv hd hcd) (IA.own gi hi) l hab F1 σ H1 F1 (.refl _) S1).mono fun u H2 ⟨F2, e2, r2, S2⟩ => ?_
  refine (hb _ w F2 σ H2 F2 (.refl _) S2).mono fun z H3 ⟨_, _, F3, e3, r3, S3, k, ek, es, w⟩ => ?_
  subst ek es
  obtain ⟨hF, oo, hoo, _, zs, eo, rv⟩ := S3.cell hg
  subst eo
  refine ⟨q2, upd H3 q2 (.dK (putK zs (Kk.key k) v)), r2, .inl ⟨zs, Kk.key k, hoo, KkV.of r3, by rw [show zs.length = m.length from Paired.length rv]; exact w.1, rfl⟩, _, F3, ((e0.trans e1).trans e2).trans e3, ?_, next _ w.2⟩
  exact S3.write (c' := dctc (dput m k y)) hg hoo (not_codeD rfl) rfl ⟨_, rfl, kvs_put rv (Enc.mono (α := ν) r1 (e2.trans e3))⟩
theorem ws_frFD (gi j : Nat) (hne : j ≠ gi) (hi : s.gs[gi]? = some (q, insc C fs)) (l : fs.lookup f = some (raw (.ref q2))) (hj : s.gs[j]? = some (q2, dctc m)) (h : Ws Y ⟨s.ρ, (s.gs.set gi (q, insc C (fput f (pu (Dct.mk m)) fs))).eraseIdx j⟩ sts D) : Ws Y s sts D := fun F0 σ H F e0 S => by
  obtain ⟨hF, oo, hoo, _, zs, eo, rv⟩ := S.cell hj
  subst eo
  refine ⟨fun pins s1 I => ?_⟩
  obtain ⟨od, J⟩ := I.lock hoo trivial
  have S1 := S.write (o' := .frz od (.dK zs)) (c' := ⟨fun _ _ o => o = .frz od (.dK zs), fun h _ => h⟩) hj hoo (not_codeD rfl) rfl rfl
  have hl : j < s.gs.length := (List.getElem?_eq_some_iff.mp hj).1
  have hi1 : (s.gs.set j (q2, (⟨fun _ _ o => o = .frz od (.dK zs), fun h _ => h⟩ : Cell)))[gi]? = some (q, insc C fs) := by rw [List.getElem?_set_ne hne]; exact hi
  -- frozen, but still held as owned
  obtain ⟨_, o1, ho1, ht1, dx, vs, eo1, fr⟩ := S1.cell hi1
  subst eo1
  have S2 := S1.freeze (i := j) (p := q2) (List.getElem?_set_self hl) upd_same
  have eg : (s.gs.set j (q2, (⟨fun _ _ o => o = .frz od (.dK zs), fun h _ => h⟩ : Cell))).eraseIdx j = s.gs.eraseIdx j := by
    rw [List.eraseIdx_set_eq]
  -- where self's cell is now
  have hil : gi < s.gs.length := (List.getElem?_eq_some_iff.mp hi).1
  obtain ⟨gi2, hgi2, eset⟩ : ∃ gi2, (s.gs.eraseIdx j)[gi2]? = some (q, insc C fs) ∧ ∀ z, (s.gs.set gi z).eraseIdx j = (s.gs.eraseIdx j).set gi2 z := by
    by_cases lt : gi < j
    · refine ⟨gi, by rw [List.getElem?_eraseIdx_of_lt lt]; exact hi, fun z => ?_⟩
      rw [List.eraseIdx_set_gt lt]
    · have gt : j < gi := by omega
      refine ⟨gi - 1, ?_, fun z => ?_⟩
      · rw [List.getElem?_eraseIdx_of_ge (by omega), Nat.sub_add_cancel (by omega)]; exact hi
      · rw [List.eraseIdx_set_lt gt]
  have S2' : Sta Y ⟨s.ρ, s.gs.eraseIdx j⟩ σ (upd H q2 (.frz od (.dK zs))) (upd F q2 (.frz od (.dK zs))) := by rw [← eg]; exact S2
  have rep2 : (pu (Dct.mk m)).rep Y.X.K (upd F q2 (.frz od (.dK zs))) (.ref q2) := ⟨q2, od, zs, rfl, upd_same, rv.mono (Ext.grow hF)⟩
  have S3 := S2'.write (o' := .ins C dx vs) (c' := insc C (fput f (pu (Dct.mk m)) fs)) hgi2 ho1 (not_codeI rfl) rfl ⟨dx, vs, rfl, fr_chg (fr.mono (Ext.grow hF)) (fun v hv => by
    obtain ⟨v2, h2, r2⟩ := fr_look fr l
    rw [hv] at h2
    cases h2
    have : v = .ref q2 := r2
    subst this
    exact rep2) (by rw [l]; rfl)⟩
  rw [upd_self ho1] at S3
  rw [← eset] at S3
  exact (h F0 σ _ _ (e0.trans (Ext.grow hF)) S3).run pins s1 J
theorem d_ownF {pn : Pos} (i gi g : Nat) (c : Cls Y.X.K C) (nn : NoAttr Y.X.K C f) (hN : Y.X.N[i]? = some x) (hρ : s.ρ[i]? = some (some (raw (.ref q)))) (hi : s.gs[gi]? = some (q, insc C fs)) (l : fs.lookup f = some (raw (.ref q2))) (hg : s.gs[g]? = some (q2, dctc m))
    (hab : attributeBase (.Name x pn) f Y.X.env (eval (.Name x pn) Y.X.env) = eval (.Name x pn) Y.X.env := by exact ab_ok rfl)
    (hv : Vis Y.X.env.scope x := by first | exact .inl rfl | exact .inr (.inl rfl) | exact .inr (.inr rfl)) (hd : (x == ("__debug__" : Str)) = false := by decide) (hcd : (x == ("__classdict__" : Str)) = false := by decide) : EvD Y s (.Attribute (.Name x pn) f pos) fun k => k m := fun k w =>
  .of (evp_fld c nn (evp_v i hN hρ hv hd hcd) (IA.own gi hi) l hab) ⟨m, DF.own g hg, rfl, w⟩
end
end
end Sp
set_option maxHeartbeats 4000000
namespace Sp
open PySem L2
open PySem.W (Datum DatumOrd SomeDatum)
structure Tg (γ : Type) where
  id : Addr
  val : γ
instance {γ : Type} [Inhabited γ] : Inhabited (Tg γ) := ⟨⟨default, default⟩⟩
instance {γ : Type} [Enc γ] : Enc (Tg γ) := ⟨fun K F v x => v = .ref x.id ∧ Enc.rep K F v x.val, fun h e => ⟨h.1, Enc.mono h.2 e⟩⟩
instance {γ : Type} [Enc γ] : NoN (Tg γ) := ⟨fun h e => by rw [e] at h; cases h.1⟩
section
variable {Y : DX} {s : DSt} {e a b c o : Expr} {pos p apos : Pos}
end
end Sp
set_option maxHeartbeats 4000000
namespace Sp
open PySem L2 PySem.Calls PyProof.Rows
open PySem.W (Datum DatumOrd SomeDatum)
section
variable {Y : DX} {s : DSt} {e a b c d o : Expr} {es : List Expr} {pos p apos : Pos}
variable {δ : Type} [DecidableEq δ] [Enc δ] [DatumOrd δ] [Dat δ] {W : (List δ → Prop) → Prop} {Wd : (δ → Prop) → Prop}
end
end Sp
set_option maxHeartbeats 4000000
namespace Sp
open PySem L2
open PySem.W (Datum DatumOrd SomeDatum KeqHits)
section
variable {κ ν : Type} [DecidableEq κ] [Kk κ] [Enc κ] [KkV κ] [DecidableEq ν] [Enc ν]
section
variable {Y : DX} {s : DSt} {a b : Expr} {Wa Wb : (List (κ × ν) → Prop) → Prop}
theorem EvD.q' {e : Expr} {W : (List (κ × ν) → Prop) → Prop} {k : List (κ × ν) → Prop} {Q : Pv → DSt → Prop} (h : EvD Y s e W) (w : W k) (q : ∀ A m, DF Y s A m → k m → Q A s) : Ev Y s e Q := h.q w q
end
end
end Sp
set_option maxHeartbeats 4000000
namespace Sp
open PySem L2
structure GTup (K : Frag) (mg : Str → Option Value) (x : Str) (vs : List Txt) : Prop where
  at_ : mg x = some (.ref (He.ga K x))
  sq : ∀ H, SqT K H (He.ga K x) (vs.map fun t => V.str (toStr t))
section
variable {Y : DX} {s : DSt} {pos : Pos} {x : Str} {vs : List Txt}
end
end Sp
set_option maxHeartbeats 4000000
namespace Sp
open PySem L2
open PySem.W PySem.Calls PyProof.Rows
theorem cxN {P : Program} {w : World} {outer : List Env} {H : Hp} {s : Shared} {E : XK} {u : Value} {s' : Shared} (h : L2N.CX P w outer H s E u s') : L2.CX P w outer H s E u s' := by
  obtain ⟨a, B, H', cls, d, rfl, ⟨f1, f2, f3, oe, vs, T, oT, ts, t1, t2, t3⟩, r⟩ := h
  exact ⟨a, B, H', cls, d, rfl, ⟨f1, f2, f3, oe, vs, T, oT, ts, t1, L2N.Zn.zc t2, t3⟩, r⟩
theorem fnOkN {P : Program} {w : World} {K : Frag} {mg : Str → Option Value} {base : Heap} {k : Nat} {f : Addr} {fd : FuncData} {ps : List Str} {sp : Sp} (F : FnOk P w K mg base (L2N.CX P w) k f fd ps sp) : FnOk P w K mg base (L2.CX P w) k f fd ps sp :=
  ⟨F.len, fun A outer s H args us vs Q E hr he hb hv hs => PySem.codeAny_mono (F.run A outer s H args us vs Q E hr he hb hv hs) fun r s' h => by
    cases r with
    | error e => exact cxN h
    | ok fl => cases fl <;> exact h⟩
theorem DfN.df {P : Program} {w : World} {K : Frag} {mg : Str → Option Value} {base : Heap} {T : Tb} {k : Nat} {x : Str} {ps : List Str} {d : DSp} (h : DfN P w K mg base T k x ps d) : Df P w K mg base T k x ps d :=
  ⟨let ⟨f, fd, F, r⟩ := h.ex; ⟨f, fd, fnOkN F, r⟩, h.mono⟩
structure MkrN (P : Program) (w : World) (K : Frag) (mg : Str → Option Value) (base : Heap) (T : Tb) (k : Nat) (x : Str) (C : Addr) (ps : List Str) (d : DSp) : Prop where
  ex : ∃ (f : Addr) (fd : FuncData), FnOk P w K mg base (L2N.CX P w) k f fd ps (toSp K T ps.length d) ∧ Mk K C f ∧ Binds K fd ps []
  g : mg x = some (.ref C)
  mono : DMono d
theorem MkrN.mkr {P : Program} {w : World} {K : Frag} {mg : Str → Option Value} {base : Heap} {T : Tb} {k : Nat} {x : Str} {C : Addr} {ps : List Str} {d : DSp} (h : MkrN P w K mg base T k x C ps d) : Mkr P w K mg base T k x C ps d :=
  ⟨let ⟨f, fd, F, r⟩ := h.ex; ⟨f, fd, fnOkN F, r⟩, h.g, h.mono⟩
section
variable {P : Program} {w : World} {K : Frag} {mg : Str → Option Value} {base : Heap} {fa : List He.Fa} {fn : List He.DefD} {tq : TQ}
end
section
variable {Y : DX} {s : DSt} {e a b c : Expr} {es : List Expr} {pos p : Pos} {D : DE} {sts : List Stmt}
end
end Sp
set_option maxHeartbeats 4000000
namespace Sp
open PySem L2
section
variable {Y : DX} {s : DSt} {e a b c : Expr} {es : List Expr} {pos p : Pos} {D : DE} {sts : List Stmt} {x y : Str} {q : Addr}
end
end Sp
set_option maxHeartbeats 4000000
namespace Sp
open PySem L2
section
variable {Y : DX} {s : DSt} {tg iter elt : Expr} {ifs : List Expr} {pos spos py gpos p p2 : Pos} {scope : Scope} {α β : Type} [Enc α] [Enc β] {D : DE} {sts : List Stmt} {x : Str}
end
end Sp
set_option maxHeartbeats 4000000
namespace Sp
open PySem L2 PySem.Calls PyProof.Rows
abbrev lpair (v k : Value) (c : Nat) : Obj := { cls := .type "list", dict := none, data := .seq #[v, k] c, slots := #[] }
section
variable {prog : Program} {w : World} {A : Around}
structure MinS (prog : Program) (w : World) (A : Around) (I q S : Addr) (n : Nat) (Lp : Nat → Value → Value → Shared → Prop) (Md : Nat → Value → Value → Value → Shared → Prop) (Cm : Nat → Value → Value → Value → Value → Shared → Prop) (Fi : Value → Shared → Prop) : Prop where
  at_ : ∀ {j vb kb s}, Lp j vb kb s → ∃ c, s.heap.get? S = some (lpair vb kb c)
  nx : ∀ {j vb kb s}, Lp j vb kb s → j + 1 < n → ∀ (Q : Option Value → Shared → Prop) (E : Value → Shared → Prop), (∀ v s', Md j vb kb v s' → Q (some v) s') → wpAny (model prog w) A (pyNext (.ref I)) Q E s
  dn : ∀ {j vb kb s}, Lp j vb kb s → j + 1 = n → ∀ (Q : Option Value → Shared → Prop) (E : Value → Shared → Prop), (∀ s' c, s'.heap.get? S = some (lpair vb kb c) → (∀ k : Value → Shared → Prop, (∀ s2, Fi vb s2 → k vb s2) → k vb { s' with heap := s'.heap.update S (Obj.mapSeq fun _ => #[]) }) → Q none s') → wpAny (model prog w) A (pyNext (.ref I)) Q E s
  ca : ∀ {j vb kb v s}, Md j vb kb v s → ∀ (Q : Value → Shared → Prop) (E : Value → Shared → Prop), (∀ kx s', Cm j vb kb v kx s' → Q kx s') → wpAny (model prog w) A (call (.ref q) [v]) Q E s
  cm : ∀ {j vb kb v kx s}, Cm j vb kb v kx s → ∃ (b : Bool) (c : Nat), s.heap.get? S = some (lpair vb kb c) ∧ (∀ (Q : Value → Shared → Prop) (E : Value → Shared → Prop), Q (.bool b) s → wpAny (model prog w) A (richCompare .Lt kx kb) Q E s) ∧
    (b = true → Lp (j + 1) v kx { s with heap := s.heap.update S (Obj.mapSeq fun _ => #[v, kx]) }) ∧ (b = false → Lp (j + 1) vb kb s)
structure MaxS (prog : Program) (w : World) (A : Around) (I q S : Addr) (n : Nat) (Lp : Nat → Value → Value → Shared → Prop) (Md : Nat → Value → Value → Value → Shared → Prop) (Cm : Nat → Value → Value → Value → Value → Shared → Prop) (Fi : Value → Shared → Prop) : Prop where
  at_ : ∀ {j vb kb s}, Lp j vb kb s → ∃ c, s.heap.get? S = some (lpair vb kb c)
  nx : ∀ {j vb kb s}, Lp j vb kb s → j + 1 < n → ∀ (Q : Option Value → Shared → Prop) (E : Value → Shared → Prop), (∀ v s', Md j vb kb v s' → Q (some v) s') → wpAny (model prog w) A (pyNext (.ref I)) Q E s
  dn : ∀ {j vb kb s}, Lp j vb kb s → j + 1 = n → ∀ (Q : Option Value → Shared → Prop) (E : Value → Shared → Prop), (∀ s' c, s'.heap.get? S = some (lpair vb kb c) → (∀ k : Value → Shared → Prop, (∀ s2, Fi vb s2 → k vb s2) → k vb { s' with heap := s'.heap.update S (Obj.mapSeq fun _ => #[]) }) → Q none s') → wpAny (model prog w) A (pyNext (.ref I)) Q E s
  ca : ∀ {j vb kb v s}, Md j vb kb v s → ∀ (Q : Value → Shared → Prop) (E : Value → Shared → Prop), (∀ kx s', Cm j vb kb v kx s' → Q kx s') → wpAny (model prog w) A (call (.ref q) [v]) Q E s
  cm : ∀ {j vb kb v kx s}, Cm j vb kb v kx s → ∃ (b : Bool) (c : Nat), s.heap.get? S = some (lpair vb kb c) ∧ (∀ (Q : Value → Shared → Prop) (E : Value → Shared → Prop), Q (.bool b) s → wpAny (model prog w) A (richCompare .Gt kx kb) Q E s) ∧
    (b = true → Lp (j + 1) v kx { s with heap := s.heap.update S (Obj.mapSeq fun _ => #[v, kx]) }) ∧ (b = false → Lp (j + 1) vb kb s)
end
end Sp
set_option maxHeartbeats 4000000
namespace Sp
open PySem L2 PySem.Calls PyProof.Rows
open PySem.W (Datum DatumOrd SomeDatum EachIs KeyedOut)
section
variable {M : Model} {A : Around} {E : Value → Shared → Prop} {s : Shared} {name qual : Str} {params : Arguments} {body : Expr} {scope : Scope} {env : Env} {c P : Addr} {ps : Array Value} {pos : Pos} {firstLine : Nat} {mg : Str → Option Value} {clos : List (Str × Addr)} {Q : Value → Shared → Prop}
end
def CodeIs (own : Bool) (H : Hp) (c : Addr) (q : Str) : Prop := match own with
  | false => H c = some (LamX.CodeO c q)
  | true => ∃ P, H c = some (CodeT c P (some q)) ∧ H P = some (PTab P)
theorem CodeIs.ext {own : Bool} {H H' : Hp} {c : Addr} {q : Str} (h : CodeIs own H c q) (e : ∀ b φ, H b = some (.ext φ) → H' b = some (.ext φ)) : CodeIs own H' c q := by
  cases own with
  | false => exact e _ _ h
  | true =>
    obtain ⟨P, h1, h2⟩ := h
    exact ⟨P, e _ _ h1, e _ _ h2⟩
structure ParOkC (N : List Str) (sc scope : Scope) (vs : List Nat) (i : Nat) (x : Str) : Prop where
  kind : scope.kind = .function
  co : scope.isCoroutine = false
  gen : scope.isGenerator = false
  one : (scope.names.filter fun y => y.2 == .cell) = [(x, .cell)]
  par : scope.names.lookup x = some .cell
  at_ : N[i]? = some x
  free : ∀ y ∈ scope.names, y.2 = .free → sc.names.lookup y.1 = some .cell ∨ sc.names.lookup y.1 = some .free
  own : ∀ (j : Nat) (y : Str), N[j]? = some y → scope.names.lookup y = some .local → j ∈ vs
section
variable {M : Model} {A : Around} {E : Value → Shared → Prop} {s : Shared}
end
inductive TbLO (X : Cx) (T : Tb) (q : Str) (lp : Pos) : Bool → Prop
  | of (h : TbL X T q lp) : TbLO X T q lp false
  | ne (h : Tbl X T (.nest (some q))) : TbLO X T q lp true
structure LamAtO (own : Bool) (X : Cx) (T : Tb) (params : Arguments) (body : Expr) (scope : Scope) (H H1 : Hp) (f c' : Addr) (pm ctv : Value) (s' : Shared) : Prop where
  ext : LamX.ExtN H H1
  tb : TbOk T H1
  obj : s'.heap.get? f = some (PySem.W.kla_obj "<lambda>" (X.env.qual ++ "<lambda>") params body scope (cloFrom X.env.cells scope.names []) pm c' ctv)
  free : H1 f = none
  nofr : f ∉ frs X.stack
  code : CodeIs own H1 c' (X.env.qual ++ "<lambda>")
section
variable {X : Cx} {pins : List (Addr × Obj)} {σ : L2.St} {H : Hp} {s : Shared}
end
section
variable {X : Cx} {pins : List (Addr × Obj)} {σ : L2.St} {H : Hp} {s : Shared}
end
section
variable {Y : DX} {st : DSt} {σ : L2.St} {H F : Hp} {pins : List (Addr × Obj)} {s : Shared}
end
end Sp
set_option maxHeartbeats 4000000
namespace Sp
open PySem L2 PySem.Calls PyProof.Rows
open PySem.W (Datum DatumOrd SomeDatum EachIs KeyedOut)
section
variable {α κ : Type} [DecidableEq κ] [DatumOrd κ]
end
structure KJ (own : Bool) (Y : DX) (st : DSt) (σ : L2.St) (pins : List (Addr × Obj)) (f : Addr) (fo : Obj) (c I S : Addr) (F1 : Hp) (s : Shared) (H F : Hp) : Prop where
  inv : Inv Y.X ((f, fo) :: pins) σ H s
  nI : H I = none
  nS : H S = none
  ext : Ext F1 F
  sta : Sta Y st σ H F
  co : CodeIs own H c (Y.X.env.qual ++ "<lambda>")
section
variable {Y : DX} {st : DSt} {σ : L2.St} {pins : List (Addr × Obj)} {f c I S : Addr} {fo : Obj} {F1 H H0 F : Hp} {s : Shared}
end
section
variable {Y : DX} {st : DSt} {σ : L2.St} {pins : List (Addr × Obj)} {f c I S : Addr} {A0 : Pv} {α κ : Type} [Enc α] [DecidableEq κ] [Enc κ] [DatumOrd κ] [Dat κ] [Srtb κ] {k i : Nat} {vs : List Nat} {scope : Scope} {x : Str} {params : Arguments} {body : Expr} {pm ctv : Value}
end
end Sp
set_option maxHeartbeats 4000000
namespace Sp
open PySem L2 PySem.Calls PyProof.Rows
open PySem.W (Datum DatumOrd SomeDatum EachIs KeyedOut)
section
variable {Y : DX} {s : DSt} {a : Expr} {α κ : Type} [Enc α] [DecidableEq κ] [Enc κ] [DatumOrd κ] [Dat κ] [Srtb κ]
end
end Sp
set_option maxHeartbeats 4000000
namespace Sp
open PySem L2
open PySem.W (Datum DatumOrd SomeDatum)
theorem YE.nox {Y : DX} (o : YOk Y) : YE Y (fun _ => True) NoE := ⟨o, fun _ _ _ h => h.elim⟩
section
variable {γ τ ρ : Type} [Ob γ] [Ags τ] [Enc ρ]
end
section
variable {Y : DX} {s : DSt} {e a b c o : Expr} {es : List Expr} {pos p apos : Pos} {Q : Pv → DSt → Prop} {fs : Flds} {C : Addr}
theorem sp_callP {n : Nat} {d : DSp} {σ : L2.St} {F0 H F : Hp} {vs : List V} {As : List Pv} {gs1 gs2 : Gs} (e0 : Ext F0 F) (S : Sta Y s σ H F) (r : Rvs Y.X.K F vs As) (hn : As.length = n) (hp : s.gs.Perm (gs1 ++ gs2))
    (h : d As gs1 (fun A gs' => Q A ⟨s.ρ, gs' ++ gs2⟩) (fun e gs' => ∃ l, (gs' ++ gs2).Perm l ∧ Y.ex e ⟨s.ρ, l⟩))
    (mono : ∀ (R R' : Pv → Gs → Prop) (E E' : Exc → Gs → Prop), (∀ A g, R A g → R' A g) → (∀ e g, E e g → E' e g) → d As gs1 R E → d As gs1 R' E') :
    toSp Y.X.K Y.T n d vs H (Po Y σ F0 Q) (L2.WE (wxOf Y) σ) := by
  have G := (S.perm hp).stg
  have nd := G.nd
  rw [List.map_append, List.nodup_append] at nd
  refine ⟨(Paired.length r).trans hn, As, gs1, F, r, ⟨G.ext, G.ntb, fun p hp => G.own p (List.mem_append_left _ hp), nd.1, G.tb⟩, mono _ _ _ _ (fun A g q v H' F' r' G1 c => ?_) (fun e g q cls dd H' F' r' G1 c => ?_) h⟩
  · exact ⟨A, _, F', e0.trans c.ff, r', S.called hp G1 c, q⟩
  · obtain ⟨l, hl, q⟩ := q
    exact ⟨e, ⟨s.ρ, l⟩, F', (S.called hp G1 c).perm hl, r', q⟩
theorem ev_methP {B : Pv} {m : Str} {ps : List Str} {dd : DSp} {j : Nat} {pl : Sem Bool} (G : Mt Y.X.prog Y.X.w Y.X.K Y.X.mg Y.X.base Y.T j C m ps dd) (c : Cls Y.X.K C) (ok : YOk Y) (hj : j ≤ Y.k) (ho : EvP Y s o B) (hB : IA Y s B C fs) (hf : fs.lookup m = none)
    (h : Evs Y s (e :: es) fun As s1 => As.length + 1 = ps.length ∧ ∃ gs1 gs2, s1.gs.Perm (gs1 ++ gs2) ∧ dd (B :: As) gs1 (fun A gs' => Q A ⟨s1.ρ, gs' ++ gs2⟩) (fun e gs' => ∃ l, (gs' ++ gs2).Perm l ∧ Y.ex e ⟨s1.ρ, l⟩))
    (hst : starEach (e :: es) Y.X.env = (false, eval e Y.X.env) :: starEach es Y.X.env) (hpl : (backTo pos (starEach es Y.X.env)).any (·.1) = false)
    (ht : eval (.Call (.Attribute o m apos) (e :: es) [] pos) Y.X.env = (do
      let ov ← eval o Y.X.env
      standAt apos.atName
      let (f, first) ← holding [ov] (getMethod ov m pl)
      callWith pos f first (backTo pos (starEach (e :: es) Y.X.env)) (backToKw pos (keywordEach [] Y.X.env)))) : Ev Y s (.Call (.Attribute o m apos) (e :: es) [] pos) Q := fun F0 σ H F e0 S => by
  obtain ⟨⟨f, fd, F1, hm, hb⟩, mono⟩ := G
  refine .of (pe_methS (E := L2.WE (wxOf Y)) pe_we c hm F1 (ok.room.mono hj) hb (fun σ => passAt ok.tk σ) pa_wa hst hpl ht) ?_
  refine (ho F σ H F (.refl _) S).mono fun v H1 ⟨F1, e1, r1, S1⟩ => ?_
  obtain ⟨a, dx, vs, ev, ha, rf⟩ := hB σ H1 F1 v S1 r1
  refine ⟨a, dx, vs, ev, ha, fr_no rf hf, ?_⟩
  refine (h F1 σ H1 F1 (.refl _) S1).mono fun us H2 ⟨As, s2, F2, e2, r2, S2, hl, gs1, gs2, hp, q⟩ => ?_
  exact sp_callP ((e0.trans e1).trans e2) S2 (.cons (B.mono r1 e2) r2) (by rw [List.length_cons]; exact hl) hp q (mono (B :: As) gs1)
end
section
variable {Y : DX} {s : DSt} {e a b c o : Expr} {es : List Expr} {pos p apos : Pos} {τ ρ α β γ : Type} [Ags τ] [Enc ρ] [Enc α] [Enc β] [og : Ob γ] {G0 : Gs → Prop} {E : Ex → Prop} {V : (τ → Prop) → Prop} {ps : List Str} {j : Nat} {y m : Str} {q : Addr} {py : Pos} {mm : γ}
end
section
variable {Y : DX} {s : DSt} {e a b c : Expr} {pos p lpos : Pos} {α β γ : Type} [Enc α] [Enc β] {put : γ → DSt} {body : Expr} {scope : Scope} {x : Str} {tg : Expr} {sts : List Stmt} {D : DE} {p2 : Pos}
end
end Sp
set_option maxHeartbeats 4000000
namespace Sp
open PySem L2
open PySem.W (Datum DatumOrd SomeDatum)
section
variable {Y : DX} {s : DSt} {e a b c : Expr} {r : List Expr} {pos p : Pos} {γ : Type} {put : γ → DSt} {sts : List Stmt} {D : DE}
end
section
variable {Y : DX} {s : DSt} {e a b c : Expr} {es : List Expr} {pos p : Pos} {τ α γ : Type} [Ags τ] [Enc α] [og : Ob γ] {G0 : Gs → Prop} {E : Ex → Prop} {V : (τ → Prop) → Prop} {ps : List Str} {j : Nat} {sts : List Stmt} {D : DE} {x : Str} {p2 : Pos} {tg : Expr}
theorem ev_makeI {Q : Pv → DSt → Prop} {C : Addr} {dd : DSp} (G : Mkr Y.X.prog Y.X.w Y.X.K Y.X.mg Y.X.base Y.T j x C ps dd) (ok : YOk Y) (hj : j + 1 ≤ Y.k) (hg : Gl Y.X x)
    (h : Evs Y s (e :: es) fun As s1 => As.length + 1 = ps.length ∧ ∀ q, ∃ gs1 gs2, s1.gs.Perm (gs1 ++ gs2) ∧ dd (raw (.ref q) :: As) ((q, insc C []) :: gs1)
      (fun A gs' => A = pu () ∧ Q (raw (.ref q)) ⟨s1.ρ, gs' ++ gs2⟩) (fun e gs' => Y.ex e ⟨s1.ρ, gs' ++ gs2⟩))
    (hdb : (x == ("__debug__" : Str)) = false) (he : starEach (e :: es) Y.X.env = (false, eval e Y.X.env) :: starEach es Y.X.env) (hpl : (backTo pos (starEach es Y.X.env)).any (·.1) = false) : Ev Y s (.Call (.Name x p) (e :: es) [] pos) Q := fun F0 σ H F e0 S => by
  obtain ⟨⟨f, fd, F1, M, hb⟩, hm, mono⟩ := G
  refine .of (pe_makeS (E := L2.WE (wxOf Y)) M F1 (ok.room.mono hj) hg hm hb (fun σ => passAt ok.tk σ) pa_wa hdb he hpl) ?_
  refine (h F0 σ H F e0 S).mono fun us H1 ⟨As, s1, F1, e1, r1, S1, hl, k⟩ => ?_
  intro q dx hq hdx hne
  obtain ⟨gs1, gs2, hp, hd⟩ := k q
  have S2 := S1.newF (o := .own q) hdx rfl
  have hq2 : (upd H1 dx (.own q)) q = none := by rw [upd_ne (Ne.symm hne)]; exact hq
  have S3 := S2.newO (o := .ins C dx []) (c := insc C []) hq2 rfl ⟨dx, [], rfl, .nil⟩
  have hp3 : ((q, insc C []) :: s1.gs).Perm (((q, insc C []) :: gs1) ++ gs2) := hp.cons _
  have e2 : Ext F1 (upd F1 dx (.own q)) := Ext.grow (S1.free hdx)
  have sp := sp_call (Q := fun A s' => A = pu () ∧ Q (raw (.ref q)) s') (As := raw (.ref q) :: As) (n := ps.length) (d := dd) (F0 := F0) (e1.trans e2) S3 (.cons rfl (r1.mono e2)) (by rw [List.length_cons]; exact hl) hp3 hd (mono _ _)
  obtain ⟨hlen, As', gs', F', rr, G', d'⟩ := sp
  refine ⟨hlen, As', gs', F', rr, G', mono _ _ _ _ _ _ (fun A g q3 v H' F'' ra G2 st => ?_) (fun e g q3 => q3) d'⟩
  obtain ⟨B, s4, F4, e4, r4, S4, eb, q4⟩ := q3 v H' F'' ra G2 st
  subst eb
  exact ⟨r4, raw (.ref q), _, _, e4, rfl, S4, q4⟩
end
section
variable {P : Program} {w : World} {K : Frag} {mg : Str → Option Value} {base : Heap} {fa : List He.Fa} {fn : List He.DefD} {tq : TQ} {γ τ ρ : Type} [og : Ob γ] [Ags τ] [Enc ρ]
end
section
variable {Y : DX} {s : DSt} {e o : Expr} {pos : Pos} {f x : Str} {fs : Flds} {C : Addr} {sts : List Stmt} {D : DE} {p2 : Pos} {q : Addr}
end
section
variable {Y : DX} {k : Nat} {scope : Scope}
end
end Sp
set_option maxHeartbeats 4000000
namespace L2
open PySem PySem.Spec PyProof.Rows
section
variable {X : Cx} {es : List Expr} {t : TA} {pos : Pos}
variable {o e : Expr} {to : TE} {name : Str} {apos cpos : Pos} {id : String} {r : V → List V → Hp → VK → Prop}
end
end L2
namespace Sp
open PySem L2
open PySem.W (Datum DatumOrd SomeDatum)
section
variable {X : Cx} {α : Type} [DecidableEq α] [Enc α] [Datum α] [Dat α]
end
section
variable {Y : DX} {s : DSt} {e a b c o : Expr} {es : List Expr} {pos p apos : Pos}
section
variable {δ : Type} [DecidableEq δ] [Enc δ] [Datum δ] [Dat δ] {Wo : (TupN δ → Prop) → Prop} {We : (δ → Prop) → Prop}
end
section
variable {α : Type} [Enc α]
end
end
structure TupK (α : Type) where
  tup : Tup α
deriving DecidableEq
instance {α : Type} [Enc α] : Enc (TupK α) := ⟨fun K F v x => ∃ p vs, v = .ref p ∧ F p = some (.tup vs) ∧ Vs K F vs x.tup.items,
  fun ⟨p, vs, h1, h2, h4⟩ e => ⟨p, vs, h1, e _ _ h2, h4.mono e⟩⟩
instance {α : Type} : Inhabited (TupK α) := ⟨⟨⟨[]⟩⟩⟩
instance {α : Type} [Kk α] : Kt (TupK α) := ⟨fun x => x.tup.items.map Kk.key, fun {a b} h => by
  obtain ⟨⟨a⟩⟩ := a
  obtain ⟨⟨b⟩⟩ := b
  exact congrArg (fun x => TupK.mk (PySem.W.Tup.mk x)) (kk_list h)⟩
instance {α : Type} [Kk α] [Enc α] [KkV α] : KtV (TupK α) := ⟨fun {K F v k} ⟨p, vs, h1, h2, h3⟩ => ⟨p, h1, by rw [h2, vs_keys h3]; rfl⟩,
  fun {K F b k} h => ⟨b, _, rfl, h, keys_vsR k.tup.items⟩⟩
section
variable {Y : DX} {s : DSt} {e a b c o : Expr} {es : List Expr} {pos p apos : Pos} {α : Type} [Enc α]
end
end Sp
set_option maxHeartbeats 4000000
namespace L2
open PySem PySem.Spec PyProof.Rows
section
variable {P : Program} {w : World} {K : PySem.W.Frag} {d : Addr} {o : Obj} {es : Array DictEntry} {ep : Nat}
end
end L2
namespace Sp
open PySem L2
open PySem.W (Datum DatumOrd SomeDatum)
section
variable {Y : DX} {s : DSt} {a tg : Expr} {apos cpos tpos : Pos} {elts : List Expr} {kk : Nat} {κ ν : Type} [DecidableEq κ] [Kt κ] [Enc κ] [KtV κ] [Enc ν]
end
section
variable {Y : DX} {s : DSt} {a : Expr} {pos p : Pos} {α : Type} [Enc α]
end
end Sp
set_option maxHeartbeats 4000000
namespace RY
open PySem PySem.Spec PyProof.Rows RT
section
variable {prog : Program} {w : World} {A : Around} {E : Value → Shared → Prop} {s : Shared} {it : Addr} {fp : List Addr} {n : Nat} {P : Nat → Value → Prop} {St : Nat → Shared → Prop} {T : String} {G : Array GenState → Array GenState → Prop}
end
end RY
namespace Sp
open PySem L2
open PyProof.Rows (Call_ args_cons args_nil len_tuple)
section
variable {X : Cx}
end
section
variable {Y : DX} {s : DSt} {a : Expr} {pos p p2 pos2 : Pos} {α : Type} [Enc α]
end
end Sp
set_option maxHeartbeats 4000000
namespace Sp
open PySem L2 PySem.Calls PyProof.Rows
open PySem.W (Datum DatumOrd SomeDatum EachIs KeyedOut)
section
variable {Y : DX} {s : DSt} {a : Expr} {α κ : Type} [Enc α] [DecidableEq κ] [Enc κ] [DatumOrd κ] [Dat κ] [Srtb κ]
end
end Sp
set_option maxHeartbeats 4000000
namespace L2
open PySem PySem.Spec PyProof.Rows
section
variable {prog : Program} {w : World} {A : Around} {it d : Addr} {es : Array DictEntry} {ep : Nat}
end
end L2
namespace Sp
open PySem L2
open PySem.W (Datum DatumOrd SomeDatum)
section
variable {o : Expr} {p pos apos cpos : Pos}
end
section
variable {Y : DX} {s : DSt} {o : Expr} {p pos apos cpos : Pos} {κ : Type} [DecidableEq κ] [Kt κ]
end
end Sp
set_option maxHeartbeats 4000000
namespace PySem.SeqAt
open PySem PySem.Calls PyProof.Rows PySem.W
section
variable {A : Around} {s : Shared}
end
end PySem.SeqAt
namespace PySem.W
open PySem PySem.Calls PyProof.Rows PySem.SeqAt
section
variable {prog : Program} {w : World} {A : Around} {E : Value → Shared → Prop} {s : Shared}
end
end PySem.W
namespace Sp
open PySem L2 PySem.Calls PyProof.Rows
open PySem.W (Datum DatumOrd SomeDatum KeepsBut EachIs AllAlike Sortable KeyedOut SortsAt)
class Srtg (α : Type) [DecidableEq α] [Datum α] : Prop where
  kd : (∀ a : α, ∃ xs, Datum.toD a = .tuple xs) ∨ ∀ a : α, Datum.toD a ≠ .none ∧ ∀ xs, Datum.toD a ≠ .tuple xs
instance {α : Type} [DecidableEq α] [Datum α] : Srtg (Tup α) := ⟨.inl fun _ => ⟨_, rfl⟩⟩
section
variable {prog : Program} {w : World} {A : Around} {E : Value → Shared → Prop} {s : Shared} {vs : List Value} {kz : List PyData} {f : Value} {a : Addr} {n : Nat} {P : PySem.Fin → Shared → Prop}
end
section
variable {Y : DX} {st : DSt} {σ : L2.St} {H F : Hp} {pins : List (Addr × Obj)} {s : Shared}
end
section
variable {Y : DX} {s : DSt} {a : Expr} {α κ : Type} [Enc α] [DecidableEq κ] [Enc κ] [DatumOrd κ] [Dat κ] [Srtg κ]
end
end Sp
set_option maxHeartbeats 4000000
namespace Sp
open PySem L2
section
variable {X : Cx}
end
section
variable {Y : DX} {s : DSt} {e b : Expr} {pos p2 : Pos} {D : DE} {sts : List Stmt} {x : Str} {q : Addr}
end
section
variable {Y : DX} {s : DSt} {a b tg : Expr} {pos p : Pos}
end
end Sp
set_option maxHeartbeats 4000000
namespace Sp
open PySem L2
inductive LR (α : Type) where
  | fz (xs : List α)
  | rw (a : Addr)
instance {α : Type} : Inhabited (LR α) := ⟨.fz []⟩
instance {α : Type} [Enc α] : Enc (LR α) := ⟨fun K F v x => match x with
  | .fz xs => Enc.rep K F v xs
  | .rw a => v = .ref a, fun {K F F' v x} h e => match x with
  | .fz xs => Enc.mono (α := List α) h e
  | .rw a => h⟩
section
variable {κ α : Type} [DecidableEq κ] [Kk κ] [Enc α]
abbrev frz (m : List (κ × List α)) : List (κ × LR α) := m.map fun p => (p.1, .fz p.2)
theorem dval_frz (m : List (κ × List α)) (k : κ) : dval (frz m) k = (dval m k).map LR.fz := by
  unfold dval
  induction m with
  | nil => rfl
  | cons p m ih =>
    show Option.map _ (List.find? _ ((p.1, LR.fz p.2) :: frz m)) = _
    rw [List.find?_cons, List.find?_cons]
    by_cases e : p.1 = k
    · simp [e]
    · simp only [e, decide_false]
      exact ih
end
section
variable {Y : DX} {s : DSt} {o e b : Expr} {pos p2 : Pos} {D : DE} {sts : List Stmt} {x : Str} {q : Addr}
variable {κ α : Type} [DecidableEq κ] [Kk κ] [Enc κ] [KkV κ] [Enc α]
end
end Sp
set_option maxHeartbeats 4000000
namespace Sp
open PySem L2
section
variable {Y : DX} {s : DSt} {a b c tg : Expr} {pos : Pos} {D : DE} {sts : List Stmt}
variable {α β γ : Type} [Enc α] [Enc β] [Enc γ]
end
end Sp
set_option maxHeartbeats 4000000
namespace PySem.W
open PySem PySem.Calls PyProof.Rows
section
variable {prog : Program} {w : World} {A : Around} {E : Value → Shared → Prop} {s : Shared} {vs : List Value}
end
end PySem.W
namespace Sp
open PySem L2
open PySem.W (Datum DatumOrd)
section
variable {X : Cx} {α : Type} [DecidableEq α] [Enc α]
end
section
variable {Y : DX} {s : DSt} {a : Expr} {pos p : Pos}
variable {δ : Type} [DecidableEq δ] [Enc δ] [DatumOrd δ] [Dat δ] {W : (List δ → Prop) → Prop}
end
end Sp
set_option maxHeartbeats 4000000
namespace Sp
open PySem L2
open PySem.W (Datum DatumOrd SomeDatum)
section
variable {κ κ2 ν : Type} [DecidableEq κ] [DecidableEq κ2]
def rset : List (κ × List (κ2 × ν)) → κ → List (κ2 × ν) → List (κ × List (κ2 × ν))
  | [], _, _ => []
  | p :: r, k, v => if p.1 = k then (p.1, v) :: r else p :: rset r k v
def hop (m : List (κ × List (κ2 × ν))) (k : κ) : List (κ × List (κ2 × ν)) := if (dval m k).isSome = true then m else m ++ [(k, [])]
section
variable [Kk κ2] [Enc ν]
def hcells : List (κ × List (κ2 × ν)) → (Nat → Addr) → Gs
  | [], _ => []
  | p :: r, f => (f 0, dctc p.2) :: hcells r fun n => f (n + 1)
theorem h_find : ∀ (m : List (κ × List (κ2 × ν))) (f : Nat → Addr) (k : κ), (dval (grefs m f) k = none ∧ dval m k = none ∧ ∀ D : Addr, ∃ f', grefs (m ++ [(k, [])]) f' = grefs m f ++ [(k, Rf.mk D)] ∧ hcells (m ++ [(k, [])]) f' = hcells m f ++ [(D, dctc ([] : List (κ2 × ν)))]) ∨
    ∃ j a v, dval m k = some v ∧ dval (grefs m f) k = some (Rf.mk a) ∧ (hcells m f)[j]? = some (a, dctc v) ∧ ∀ v', grefs (rset m k v') f = grefs m f ∧ hcells (rset m k v') f = (hcells m f).set j (a, dctc v')
  | [], f, k => .inl ⟨rfl, rfl, fun D => ⟨fun _ => D, rfl, rfl⟩⟩
  | p :: r, f, k => by
    by_cases e : p.1 = k
    · refine .inr ⟨0, f 0, p.2, ?_, ?_, rfl, fun v => ?_⟩
      · simp [dval, e]
      · simp [grefs, dval, e]
      · simp [rset, grefs, hcells, e]
    · rcases h_find r (fun n => f (n + 1)) k with ⟨h1, h2, h3⟩ | ⟨j, a, v, h1, h2, h3, h4⟩
      · refine .inl ⟨?_, ?_, fun D => ?_⟩
        · simpa [grefs, dval, e] using h1
        · simpa [dval, e] using h2
        · obtain ⟨f', g1, g2⟩ := h3 D
          refine ⟨fun n => match n with | 0 => f 0 | n + 1 => f' n, ?_, ?_⟩
          · simpa [grefs] using g1
          · simpa [hcells] using g2
      · refine .inr ⟨j + 1, a, v, ?_, ?_, ?_, fun v' => ?_⟩
        · simpa [dval, e] using h1
        · simpa [grefs, dval, e] using h2
        · simpa [hcells] using h3
        · simpa [rset, grefs, hcells, e] using h4 v'
end
end
section
variable {Y : DX} {s : DSt} {o e f a b : Expr} {pos p apos cpos p2 : Pos} {D : DE} {sts : List Stmt} {Q : Pv → DSt → Prop}
variable {κ κ2 ν : Type} [DecidableEq κ] [Kk κ] [Enc κ] [KkV κ] [DecidableEq κ2] [Kk κ2] [Enc κ2] [KkV κ2] [Enc ν]
theorem s_hop {q : Addr} {m : List (κ × List (κ2 × ν))} {fA : Nat → Addr} {front : Gs} {g : Nat} {lp : Pos} {WK : (κ → Prop) → Prop} {R : κ → Prop} (ho : EvP Y s o (raw (.ref q))) (hs : s.gs = front ++ hcells m fA) (hg : front[g]? = some (q, dctc (grefs m fA))) (hk : EvC Y s e WK)
    (next : ∀ k f1, R k → Ws Y ⟨s.ρ, front.set g (q, dctc (grefs (hop m k) f1)) ++ hcells (hop m k) f1⟩ sts D) (w : WK fun k => m.length < sizeLine ∧ R k)
    (h2 : M2 Y.X o "setdefault" apos e (.Dict [] [] lp) cpos := by exact m2 rfl rfl rfl rfl) (hq : swapsWith (.Call (.Attribute o "setdefault" apos) [e, .Dict [] [] lp] [] cpos) none p2.line Y.X.env = pure false := by rfl) : Ws Y s (.Expr (.Call (.Attribute o "setdefault" apos) [e, .Dict [] [] lp] [] cpos) p2 :: sts) D := by
  refine ws_cons (w1_expr ?_ hq)
  intro F0 σ H F e0 S
  refine .of (pe_dsetd pe_we pe_we pe_we h2) ?_
  refine (ho F0 σ H F e0 S).mono fun v H1 ⟨F1, e1, r1, S1⟩ => ?_
  have hgl : g < front.length := (List.getElem?_eq_some_iff.mp hg).1
  have hcell : s.gs[g]? = some (q, dctc (grefs m fA)) := by rw [hs, List.getElem?_append_left hgl]; exact hg
  refine ⟨q, r1, ?_, ?_⟩
  · obtain ⟨_, oo, hoo, _, zs, eo, rv⟩ := S1.cell hcell
    subst eo
    exact .inl ⟨zs, .of hoo⟩
  refine (hk _ w F1 σ H1 F1 (.refl _) S1).mono fun u H2 ⟨A, s2, F2, e2, r2, S2, k, ea, es, hl, hr⟩ => ?_
  subst ea es
  refine ((m_new (κ := κ2) (ν := ν) (fun x => x = []) rfl) F2 σ H2 F2 (.refl _) S2).mono fun z H3 ⟨_, _, F3, e3, r3, S3, D', mm, ea, es, em⟩ => ?_
  subst ea es em
  have rz : z = .ref D' := r3
  subst rz
  have hcell3 : ((D', dctc ([] : List (κ2 × ν))) :: s2.gs)[g + 1]? = some (q, dctc (grefs m fA)) := by rw [List.getElem?_cons_succ]; exact hcell
  obtain ⟨_, oo, hoo, _, zs, eo, rv⟩ := S3.cell hcell3
  subst eo
  have hzl : zs.length = m.length := by rw [show zs.length = (grefs m fA).length from Paired.length rv, grefs_len]
  have eF : Ext F0 F3 := (e1.trans e2).trans e3
  refine ⟨zs, Kk.key k, hoo, KkV.of r2, by rw [hzl]; exact hl, fun v hv => ?_, fun hv => ?_⟩
  · rcases h_find m fA k with ⟨h1, _, _⟩ | ⟨j, a, v0, h0, h1, h2, h3⟩
    · rcases kvs_val rv k with ⟨_, h4⟩ | ⟨_, x, h4, _⟩
      · rw [hv] at h4; cases h4
      · rw [h1] at h4; cases h4
    · rcases kvs_val rv k with ⟨h4, _⟩ | ⟨v', x, h4, h5, h6⟩
      · rw [h1] at h4; cases h4
      · rw [h1] at h4
        cases h4
        rw [hv] at h5
        cases h5
        have S4 := S3.drop 0
        have hfr : front.set g (q, dctc (grefs m fA)) = front := by
          apply List.ext_getElem?
          intro n
          by_cases z : g = n
          · subst z; rw [List.getElem?_set_self hgl, hg]
          · rw [List.getElem?_set_ne z]
        have eh : hop m k = m := by unfold hop; rw [h0]; rfl
        refine ⟨raw (.ref a), _, F3, eF, h6, S4, ?_⟩
        have := next k fA hr
        rw [eh, hfr, ← hs] at this
        exact this
  · rcases h_find m fA k with ⟨h1, h0, h3⟩ | ⟨j, a, v0, h0, h1, _, _⟩
    · obtain ⟨f', g1, g2⟩ := h3 D'
      have S4 := S3.write (c' := dctc (dput (grefs m fA) k (Rf.mk D'))) (o' := .dK (putK zs (Kk.key k) (.ref D'))) hcell3 hoo (not_codeD rfl) rfl ⟨_, rfl, kvs_put rv (x := Rf.mk D') rfl⟩
      rw [dput_none h1, ← g1] at S4
      have hp : (((D', dctc ([] : List (κ2 × ν))) :: s2.gs).set (g + 1) (q, dctc (grefs (m ++ [(k, [])]) f'))).Perm (front.set g (q, dctc (grefs (m ++ [(k, [])]) f')) ++ hcells (m ++ [(k, [])]) f') := by
        rw [g2, hs, List.set_cons_succ, List.set_append_left _ _ hgl, ← List.append_assoc]
        exact List.perm_append_comm (l₁ := [(D', dctc ([] : List (κ2 × ν)))])
      have S5 := S4.perm hp
      have eh : hop m k = m ++ [(k, [])] := by unfold hop; rw [h0]; rfl
      have := next k f' hr
      rw [eh] at this
      exact ⟨raw (.ref D'), _, F3, eF, rfl, S5, this⟩
    · rcases kvs_val rv k with ⟨h4, _⟩ | ⟨v', x, h4, h5, h6⟩
      · rw [h1] at h4; cases h4
      · rw [hv] at h5; cases h5
theorem d_rf {W : (Rf → Prop) → Prop} (h : EvC Y s e W) : EvD Y s e fun k => W fun r => ∃ (j : Nat) (m : List (κ2 × ν)), s.gs[j]? = some (r.a, dctc m) ∧ k m := fun k w => (h _ w).mono fun A s' ⟨r, ea, es, j, m, hj, hk⟩ => by
  subst ea es
  exact ⟨m, DF.own j hj, rfl, hk⟩
theorem s_rput {W : (ν → Prop) → Prop} {Wr : (Rf → Prop) → Prop} {Wk : (κ2 → Prop) → Prop} {R : ν → Rf → κ2 → Prop} {ps : Pos} (ok : YOk Y) (he : EvC Y s e W) (ho : EvC Y s o Wr) (hb : EvC Y s b Wk)
    (next : ∀ v r k, R v r k → ∃ (j : Nat) (m : List (κ2 × ν)), s.gs[j]? = some (r.a, dctc m) ∧ m.length < sizeLine ∧ Ws Y ⟨s.ρ, s.gs.set j (r.a, dctc (dput m k v))⟩ sts D) (w : W fun v => Wr fun r => Wk fun k => R v r k)
    (hs : swapsWith e (some (.Subscript o b ps)) pos.line Y.X.env = pure false := by rfl) : Ws Y s (.Assign [.Subscript o b ps] e pos :: sts) D := ws_cons fun F0 σ H F e0 S => by
  refine .of (ps_dput (by have := ok.room.units; omega) pe_we pe_we pe_we hs) ?_
  refine (he _ w F σ H F (.refl _) S).mono fun v H1 ⟨_, _, F1, e1, r1, S1, y, ey, es, w⟩ => ?_
  subst ey es
  refine (ho _ w F1 σ H1 F1 (.refl _) S1).mono fun u H2 ⟨_, _, F2, e2, r2, S2, r, er, es, w⟩ => ?_
  subst er es
  refine (hb _ w F2 σ H2 F2 (.refl _) S2).mono fun z H3 ⟨_, _, F3, e3, r3, S3, k, ek, es, w⟩ => ?_
  subst ek es
  obtain ⟨j, m, hj, hl, nx⟩ := next y r k w
  obtain ⟨hF, oo, hoo, _, zs, eo, rv⟩ := S3.cell hj
  subst eo
  have ru : u = .ref r.a := r2
  refine ⟨r.a, upd H3 r.a (.dK (putK zs (Kk.key k) v)), ru, .inl ⟨zs, Kk.key k, hoo, KkV.of r3, by rw [show zs.length = m.length from Paired.length rv]; exact hl, rfl⟩, _, F3, ((e0.trans e1).trans e2).trans e3, ?_, nx⟩
  exact S3.write (c' := dctc (dput m k y)) hj hoo (not_codeD rfl) rfl ⟨_, rfl, kvs_put rv (Enc.mono (α := ν) r1 (e2.trans e3))⟩
abbrev frzH (m : List (κ × List (κ2 × ν))) : List (κ × Dct κ2 ν) := m.map fun p => (p.1, Dct.mk p.2)
theorem frH_aux {ρ : Rho} {σ : St} {De : Ends} : ∀ (m : List (κ × List (κ2 × ν))) (f : Nat → Addr) (front : Gs) {H F : Hp}, Sta Y ⟨ρ, front ++ hcells m f⟩ σ H F →
    (∀ H' F', Ext F F' → Sta Y ⟨ρ, front⟩ σ H' F' → (∀ G kvs, KVs Y.X.K G kvs (grefs m f) → KVs Y.X.K F' kvs (frzH m)) → WS Y.X sts σ H' De) → WS Y.X sts σ H De
  | [], f, front, H, F, S, k => k H F (.refl _) (by
      have e : front ++ hcells ([] : List (κ × List (κ2 × ν))) f = front := List.append_nil _
      rw [e] at S; exact S) fun G kvs h => by cases h; exact .nil
  | p :: r, f, front, H, F, S, k => by
    have hc : (front ++ hcells (p :: r) f)[front.length]? = some (f 0, dctc p.2) := by
      rw [List.getElem?_append_right (Nat.le_refl _), Nat.sub_self]
      rfl
    obtain ⟨hF, oo, hoo, _, zs, eo, rv⟩ := S.cell hc
    subst eo
    refine ⟨fun pins s1 I => ?_⟩
    obtain ⟨od, J⟩ := I.lock hoo trivial
    have S1 := S.write (o' := .frz od (.dK zs)) (c' := ⟨fun _ _ o => o = .frz od (.dK zs), fun h _ => h⟩) hc hoo (not_codeD rfl) rfl rfl
    have hl : front.length < (front ++ hcells (p :: r) f).length := (List.getElem?_eq_some_iff.mp hc).1
    have S2 := S1.freeze (i := front.length) (p := f 0) (List.getElem?_set_self hl) upd_same
    have ee : ((front ++ hcells (p :: r) f).set front.length (f 0, (⟨fun _ _ o => o = .frz od (.dK zs), fun h _ => h⟩ : Cell))).eraseIdx front.length = front ++ hcells r fun n => f (n + 1) := by
      rw [List.eraseIdx_set_eq, List.eraseIdx_append_of_length_le (Nat.le_refl _), Nat.sub_self]
      rfl
    have S3 : Sta Y ⟨ρ, front ++ hcells r fun n => f (n + 1)⟩ σ (upd H (f 0) (.frz od (.dK zs))) (upd F (f 0) (.frz od (.dK zs))) := by
      rw [← ee]; exact S2
    refine (frH_aux r (fun n => f (n + 1)) front S3 fun H' F' e1 S4 hk => k H' F' ((Ext.grow hF).trans e1) S4 fun G kvs h => ?_).run pins s1 J
    cases h with
    | cons h1 h2 =>
      refine .cons ⟨h1.1, ?_⟩ (hk G _ h2)
      exact Enc.mono (α := Dct κ2 ν) (⟨f 0, od, zs, h1.2, upd_same, rv.mono (Ext.grow hF)⟩ : Enc.rep Y.X.K (upd F (f 0) (.frz od (.dK zs))) _ (Dct.mk p.2)) e1
theorem ws_frH {q : Addr} {m : List (κ × List (κ2 × ν))} {f : Nat → Addr} {front : Gs} (g : Nat) (hs : s.gs = front ++ hcells m f) (hg : front[g]? = some (q, dctc (grefs m f))) (h : Ws Y ⟨s.ρ, front.set g (q, dctc (frzH m))⟩ sts D) : Ws Y s sts D := fun F0 σ H F e0 S => by
  have S0 : Sta Y ⟨s.ρ, front ++ hcells m f⟩ σ H F := by rw [← hs]; exact S
  refine frH_aux m f front S0 fun H' F' e1 S1 hk => ?_
  have hgl : g < front.length := (List.getElem?_eq_some_iff.mp hg).1
  obtain ⟨hF, oo, hoo, _, zs, eo, rv⟩ := S1.cell hg
  subst eo
  have S2 := S1.write (c' := dctc (frzH m)) (o' := .dK zs) hg hoo (not_codeD rfl) rfl ⟨zs, rfl, hk _ zs rv⟩
  rw [upd_id hoo] at S2
  exact h F0 σ H' F' (e0.trans e1) S2
end
end Sp
set_option maxHeartbeats 4000000
namespace Sp
open PySem L2
open PySem.W (Datum DatumOrd SomeDatum)
instance : Inhabited Rf := ⟨⟨default⟩⟩
section
variable {Y : DX} {s : DSt} {o e f a b : Expr} {es : List Expr} {pos p p2 apos py : Pos} {D : DE} {sts : List Stmt} {C : Addr} {fs : Flds} {q : Addr} {x y m : Str} {ps : List Str} {j : Nat}
theorem t_if {c : Expr} {W Wa Wb : (Bool → Prop) → Prop} (h : EvT Y s c W) (ha : EvT Y s a Wa) (hb : EvT Y s b Wb) : EvT Y s (.IfExp c a b pos) fun k => W fun x => (x = true → Wa k) ∧ (x = false → Wb k) := fun k w F0 σ H F e0 S => by
  refine ⟨fun pins s1 I => ?_⟩
  show wpAny (model Y.X.prog Y.X.w) Y.X.A (do if ← isTrue c Y.X.env (eval c Y.X.env) then isTrue a Y.X.env (eval a Y.X.env) else isTrue b Y.X.env (eval b Y.X.env)) _ Y.X.xe s1
  refine wpAny_bind (wpAny_mono ((h _ w F0 σ H F e0 S).run pins s1 I) (fun x s2 q => ?_) fun _ _ z => z)
  obtain ⟨H1, I1, s3, F1, e1, S1, es, kx⟩ := q
  subst es
  cases x with
  | true => exact (ha k (kx.1 rfl) F0 σ H1 F1 e1 S1).run pins s2 I1
  | false => exact (hb k (kx.2 rfl) F0 σ H1 F1 e1 S1).run pins s2 I1
theorem ws_frI {γ : Type} [og : Ob γ] [Enc γ] [ObOk γ] {mm : γ} (i g : Nat) (hi : s.ρ[i]? = some (some (raw (.ref q)))) (hg : s.gs[g]? = some (q, insc (He.ga Y.X.K (Ob.cls γ)) (Ob.flds mm))) (h : Ws Y ⟨s.ρ.set i (some (pu mm)), s.gs.eraseIdx g⟩ sts D) : Ws Y s sts D := fun F0 σ H F e0 S => by
  obtain ⟨hF, oo, hoo, _, dx, vs, eo, rv⟩ := S.cell hg
  subst eo
  have S2 := S.freeze hg hoo
  obtain ⟨v, hv, rv'⟩ := S.rep.get hi
  have rv2 : v = .ref q := rv'
  subst rv2
  have S3 := S2.set (A := pu mm) (v := .ref q) (ObOk.eq.mpr ⟨q, dx, vs, rfl, upd_same, rv.mono (Ext.grow hF)⟩) i
  have eσ : σ.set i (some (V.ref q)) = σ := by
    apply List.ext_getElem?
    intro t
    by_cases z : i = t
    · subst z
      rw [List.getElem?_set_self (List.getElem?_eq_some_iff.mp hv).1, hv]
    · rw [List.getElem?_set_ne z]
  rw [eσ] at S3
  exact h F0 σ _ _ (e0.trans (Ext.grow hF)) S3
theorem s_methG {τ : Type} [Ags τ] {V : (τ → Prop) → Prop} {dd : DSp} {pl : Sem Bool} (i g : Nat) (ok : YOk Y) (G : Mt Y.X.prog Y.X.w Y.X.K Y.X.mg Y.X.base Y.T j C m ps dd) (c : Cls Y.X.K C) (hj : j ≤ Y.k) (hN : Y.X.N[i]? = some y) (hρ : s.ρ[i]? = some (some (raw (.ref q)))) (hg : s.gs[g]? = some (q, insc C fs)) (h : EvA Y s (e :: es) V) (hl : ∀ t : τ, (Ags.pvs t).length + 1 = ps.length)
    (w : V fun t => dd (raw (.ref q) :: Ags.pvs t) s.gs (fun _ gs' => Ws Y ⟨s.ρ, gs'⟩ sts D) (fun e gs' => ∃ l, gs'.Perm l ∧ Y.ex e ⟨s.ρ, l⟩))
    (hf : fs.lookup m = none := by rfl) (hv : Vis Y.X.env.scope y := by first | exact .inl rfl | exact .inr (.inl rfl) | exact .inr (.inr rfl)) (hd : (y == ("__debug__" : Str)) = false := by decide) (hcd : (y == ("__classdict__" : Str)) = false := by decide)
    (hst : starEach (e :: es) Y.X.env = (false, eval e Y.X.env) :: starEach es Y.X.env := by exact star_c rfl) (hpl : (backTo pos (starEach es Y.X.env)).any (·.1) = false := by exact star_any rfl)
    (ht : eval (.Call (.Attribute (.Name y py) m apos) (e :: es) [] pos) Y.X.env = (do
      let ov ← eval (.Name y py) Y.X.env
      standAt apos.atName
      let (f, first) ← holding [ov] (getMethod ov m pl)
      callWith pos f first (backTo pos (starEach (e :: es) Y.X.env)) (backToKw pos (keywordEach [] Y.X.env))) := by rfl)
    (hs : swapsWith (.Call (.Attribute (.Name y py) m apos) (e :: es) [] pos) none p2.line Y.X.env = pure false := by rfl) : Ws Y s (.Expr (.Call (.Attribute (.Name y py) m apos) (e :: es) [] pos) p2 :: sts) D := by
  have mono := G.2
  refine ws_cons (w1_expr (ev_methP G c ok hj (evp_v i hN hρ hv hd hcd) (IA.own g hg) hf ((h _ w).mono fun As s1 ⟨t, ea, es, w⟩ => ?_) hst hpl ht) hs)
  subst ea es
  refine ⟨hl t, s1.gs, [], by rw [List.append_nil], mono _ _ _ _ _ _ (fun A g h => ?_) (fun e g h => ?_) w⟩
  · rw [List.append_nil]; exact h
  · rw [List.append_nil]; exact h
theorem s_makeG {τ : Type} [Ags τ] {V : (τ → Prop) → Prop} {dd : DSp} {nm : Str} {pos2 : Pos} (i : Nat) (ok : YOk Y) (G : Mkr Y.X.prog Y.X.w Y.X.K Y.X.mg Y.X.base Y.T j x C ps dd) (hj : j + 1 ≤ Y.k) (hg : Gl Y.X x) (hi : Y.X.N[i]? = some nm) (h : EvA Y s (e :: es) V) (hl : ∀ t : τ, (Ags.pvs t).length + 1 = ps.length)
    (w : V fun t => ∀ q, dd (raw (.ref q) :: Ags.pvs t) [(q, insc C [])] (fun A gs' => A = pu () ∧ Ws Y ⟨s.ρ.set i (some (raw (.ref q))), gs' ++ s.gs⟩ sts D) (fun e gs' => Y.ex e ⟨s.ρ, gs' ++ s.gs⟩))
    (hdb : (x == ("__debug__" : Str)) = false := by decide) (he : starEach (e :: es) Y.X.env = (false, eval e Y.X.env) :: starEach es Y.X.env := by exact star_c rfl) (hpl : (backTo pos (starEach es Y.X.env)).any (·.1) = false := by exact star_any rfl)
    (hx : Loc Y.X.env.scope nm := by first | exact .inl rfl | exact .inr rfl) (hs : swapsWith (.Call (.Name x p) (e :: es) [] pos) (some (.Name nm p2)) pos2.line Y.X.env = pure false := by rfl) (hf : Y.X.fn nm = true ∨ Y.X.env.scope.names.lookup nm = some .local := by first | exact .inl rfl | exact .inr rfl) :
    Ws Y s (.Assign [.Name nm p2] (.Call (.Name x p) (e :: es) [] pos) pos2 :: sts) D := by
  refine ws_cons (w1_set i ok hi hx (ev_makeI G ok hj hg ((h _ w).mono fun As s1 ⟨t, ea, es, w⟩ => ?_) hdb he hpl) hs hf)
  subst ea es
  exact ⟨hl t, fun q => ⟨[], s1.gs, .refl _, w q⟩⟩
end
end Sp
set_option maxHeartbeats 4000000
set_option maxHeartbeats 4000000
namespace Sp
open PySem L2
open PySem.W (DatumOrd)
theorem sl2 {n : Nat} (h : n < 1000000) : n < sizeLine := Nat.lt_of_lt_of_le h (by decide)
theorem ir {n : Nat} {i : Int} {k : Nat} (e : i = (k : Int)) (h : k < n) : inR n i := by unfold inR; omega
theorem ne_no {α : Type} [DecidableEq α] {a b : α} {A B : Prop} (h : a = b) (hB : B) : (decide (a ≠ b) = true → A) ∧ (decide (a ≠ b) = false → B) := ⟨fun g => absurd h (of_decide_eq_true g), fun _ => hB⟩
theorem no_ {A B : Prop} {b : Bool} (h : b = false) (hB : B) : (b = true → A) ∧ (b = false → B) := ⟨fun g => (by rw [h] at g; cases g), fun _ => hB⟩
theorem yes_ {A B : Prop} {b : Bool} (h : b = true) (hA : A) : (b = true → A) ∧ (b = false → B) := ⟨fun _ => hA, fun g => (by rw [h] at g; cases g)⟩
theorem nt_ {A B : Prop} {b : Bool} (h : b = true) (hB : B) : ((!b) = true → A) ∧ ((!b) = false → B) := no_ (by rw [h]; rfl) hB
theorem told_o {γ : Type} {A B : Prop} {t u : Txt} (h : t = u) (hB : B) : ((!isT (Sum.inr t : γ ⊕ Txt) u) = true → A) ∧ ((!isT (Sum.inr t : γ ⊕ Txt) u) = false → B) := no_ (by subst h; simp [isT]) hB
abbrev gt (a : Txt) (j : Nat) : Nat := a.getD j 0
theorem ixg {x : Txt} {k : Nat} (h : k < x.length) : ixS x (k : Int) = [gt x k] := by
  rw [ixS_nat h]
  simp [gt, List.getD_eq_getElem?_getD, List.getElem?_eq_getElem h]
theorem gt_mem {x : Txt} {k : Nat} (h : k < x.length) : gt x k ∈ x := by
  rw [gt, List.getD_eq_getElem?_getD, List.getElem?_eq_getElem h]
  exact List.getElem_mem h
theorem gt_at {p q : Txt} {x : Nat} : gt (p ++ x :: q) p.length = x := by simp [gt, List.getD_eq_getElem?_getD]
theorem takeg {a : Txt} {j : Nat} (h : j < a.length) : a.take (j + 1) = a.take j ++ [gt a j] := by
  rw [List.take_succ_eq_append_getElem h]
  simp [gt, List.getD_eq_getElem?_getD, List.getElem?_eq_getElem h]
theorem dropg {a : Txt} {j : Nat} (h : j < a.length) : a.drop j = gt a j :: a.drop (j + 1) := by
  rw [List.drop_eq_getElem_cons h]
  simp [gt, List.getD_eq_getElem?_getD, List.getElem?_eq_getElem h]
theorem spl {α : Type} {s : List α} {i : Nat} {x : α} (h : s[i]? = some x) : s = s.take i ++ x :: s.drop (i + 1) ∧ s.take (i + 1) = s.take i ++ [x] ∧ (s.take i).length = i := by
  obtain ⟨hlt, hy2⟩ := List.getElem?_eq_some_iff.mp h
  refine ⟨?_, by rw [List.take_add_one, h]; rfl, by rw [List.length_take]; omega⟩
  conv => lhs; rw [← List.take_append_drop i s]
  rw [List.drop_eq_getElem_cons hlt, hy2]
theorem forR {β Z : Type} {n : Nat} {f : Nat → β} {z0 : Z} {body : β → Z → (Z → Prop) → Prop} {rest : Z → Prop} (P : Nat → Z → Prop) (h0 : P 0 z0)
    (hs : ∀ i z, i < n → P i z → ∀ k : Z → Prop, (∀ z', P (i + 1) z' → k z') → body (f i) z k) (he : ∀ z, P n z → rest z) : forW ((List.range n).map f) z0 body rest := by
  refine ⟨P, h0, fun i x z hx hp => ?_, fun z hz => ?_⟩
  · rw [List.getElem?_map] at hx
    obtain ⟨y, hy, e⟩ := Option.map_eq_some_iff.mp hx
    obtain ⟨hlt, hy2⟩ := List.getElem?_eq_some_iff.mp hy
    rw [List.length_range] at hlt
    rw [List.getElem_range] at hy2
    subst hy2 e
    exact hs i z hlt hp _ fun z' h => h
  · rw [List.length_map, List.length_range] at hz
    exact he z hz
theorem forLM {α β Z : Type} {f : α → β} {s : List α} {z0 : Z} {body : β → Z → (Z → Prop) → Prop} {rest : Z → Prop} (P : List α → Z → Prop) (h0 : P [] z0)
    (hs : ∀ l x r z, s = l ++ x :: r → P l z → ∀ k : Z → Prop, (∀ z', P (l ++ [x]) z' → k z') → body (f x) z k) (he : ∀ z, P s z → rest z) : forW (s.map f) z0 body rest := by
  refine ⟨fun i z => P (s.take i) z, by simpa using h0, fun i x z hx hp => ?_, fun z hp => he z ?_⟩
  · rw [List.getElem?_map] at hx
    obtain ⟨y2, hy2, e2⟩ := Option.map_eq_some_iff.mp hx
    subst e2
    obtain ⟨g1, g2, g3⟩ := spl hy2
    exact hs (s.take i) y2 (s.drop (i + 1)) z g1 hp (fun z' => P (s.take (i + 1)) z') (fun z' h => by rw [g2]; exact h)
  · rw [List.length_map, List.take_length] at hp
    exact hp
theorem word_raw {ls : Txt} {lo hi : Int} {Q : Txt → Prop} (h0 : 0 ≤ lo) (h1 : lo ≤ hi) (h2 : hi ≤ 1000) (hl : 0 < ls.length) (hl2 : ls.length ≤ 1000) (q : ∀ y : Txt, (∀ c ∈ y, c ∈ ls) → lo ≤ y.length → (y.length : Int) ≤ hi → Q y) :
    ClD (rollW (((hi - lo) + (1 : Int)), ())) fun (r4 : Int) => ((-(2 ^ 62) ≤ (lo + r4) ∧ (lo + r4) < 2 ^ 62) ∧ (List.length ((List.range ((lo + r4)).toNat).map fun i : Nat => (i : Int)) ≤ sizeLine ∧ ∃ P7 : Int → Txt → Prop, (∀ x5 ∈ ((List.range ((lo + r4)).toNat).map fun i : Nat => (i : Int)), ((ls.length ≤ sizeLine ∧ ClD (rollW ((ls.length : Int), ())) fun (r6 : Int) => (ls.length ≤ sizeLine ∧ inR ls.length r6 ∧ P7 x5 (ixS ls r6))))) ∧ ∀ ys8, Each P7 ((List.range ((lo + r4)).toNat).map fun i : Nat => (i : Int)) ys8 → (lenSum ys8 + ys8.length * List.length (tx "") ≤ 16777216 ∧ Q (joinT (tx "") ys8)))) := by
  have hs : ls.length ≤ sizeLine := Nat.le_trans hl2 (by decide)
  refine ClD.roll (by omega) (by omega) fun r hr0 hr1 => ⟨⟨by omega, by omega⟩, ?_, fun _ y => ∃ c ∈ ls, y = [c], fun x hx => ⟨hs, ClD.roll (by omega) (by omega) fun i hi0 hi1 => ⟨hs, ⟨by omega, hi1⟩, ixS_mem hi0 hi1⟩⟩, fun ys hy => ?_⟩
  · rw [List.length_map, List.length_range]
    have : (lo + r).toNat ≤ 1000 := by omega
    exact Nat.le_trans this (by decide)
  · obtain ⟨f1, f2, f3⟩ := flat_one (ls := ls) (hy.all fun x _ y hy => hy)
    have hlen := hy.length
    rw [List.length_map, List.length_range] at hlen
    refine ⟨?_, ?_⟩
    · have : List.length (tx "") = 0 := rfl
      rw [this, f1, hlen]
      omega
    · show Q (joinT [] ys)
      rw [joinT_nil]
      refine q _ f3 ?_ ?_
      · rw [f2, hlen]; omega
      · rw [f2, hlen]; omega
theorem one_keys (ws : List Txt) : ((Dct.mk (dmerge [] (ws.map fun (x : Txt) => (x, (1 : Int))))).kvs.map (·.1)) = uq ws := keys_uq (fun _ => (1 : Int)) ws
theorem unlike_raw {ws : List Txt} {Q : List Txt → Prop} (h : ws.length ≤ 100000) (q : Q (srt (uq ws))) : (ws.length ≤ sizeLine ∧ (∀ x2 ∈ ws, (x2, (1 : Int)) = (x2, (1 : Int))) ∧ Q (srt ((Dct.mk (dmerge [] (ws.map (fun (x2 : Txt) => (x2, (1 : Int)))))).kvs.map (·.1)))) :=
  ⟨sl (by omega), fun _ _ => rfl, by rw [one_keys]; exact q⟩
theorem flat_raw {α : Type} {rows : List (List α)} {Q : List α → Prop} (h : rows.flatten.length ≤ 1000000) (q : Q rows.flatten) : forW rows ([] : List α) (fun x3 z4 nx6 => (z4.length + x3.length ≤ sizeLine ∧ nx6 (z4 ++ x3))) Q := by
  refine forL (fun l z => z = l.flatten) rfl (fun l x r z e hz k hk => ?_) (fun z hz => by subst hz; exact q)
  subst hz
  refine ⟨sl ?_, hk _ (by simp)⟩
  rw [e, List.flatten_append, List.flatten_cons, List.length_append, List.length_append] at h
  omega
section
variable {κ α : Type} [DecidableEq κ]
theorem gval_grp (v : α) (k j : κ) : ∀ m : List (κ × List α), gval (grp m k v) j = if k = j then gval m j ++ [v] else gval m j
  | [] => by
    show (if k = j then [v] else gval [] j) = _
    rfl
  | p :: r => by
    unfold grp
    by_cases e : p.1 = k
    · rw [if_pos e]
      by_cases ej : p.1 = j
      · have : k = j := e.symm.trans ej
        rw [if_pos this]
        show (if p.1 = j then p.2 ++ [v] else gval r j) = (if p.1 = j then p.2 else gval r j) ++ [v]
        rw [if_pos ej, if_pos ej]
      · have : ¬ k = j := fun z => ej (e.trans z)
        rw [if_neg this]
        show (if p.1 = j then p.2 ++ [v] else gval r j) = (if p.1 = j then p.2 else gval r j)
        rw [if_neg ej, if_neg ej]
    · rw [if_neg e]
      show (if p.1 = j then p.2 else gval (grp r k v) j) = _
      rw [gval_grp v k j r]
      by_cases ej : p.1 = j
      · have : ¬ k = j := fun z => e (ej.trans z.symm)
        rw [if_pos ej, if_neg this]
        show p.2 = (if p.1 = j then p.2 else gval r j)
        rw [if_pos ej]
      · rw [if_neg ej]
        show _ = if k = j then (if p.1 = j then p.2 else gval r j) ++ [v] else (if p.1 = j then p.2 else gval r j)
        rw [if_neg ej]
theorem grp_keys (v : α) (k : κ) : ∀ m : List (κ × List α), (grp m k v).map (·.1) = if k ∈ m.map (·.1) then m.map (·.1) else m.map (·.1) ++ [k]
  | [] => by simp [grp]
  | p :: r => by
    unfold grp
    by_cases e : p.1 = k
    · rw [if_pos e, if_pos (by rw [List.map_cons, List.mem_cons]; exact .inl e.symm)]
      rfl
    · rw [if_neg e, List.map_cons, grp_keys v k r, List.map_cons]
      by_cases h : k ∈ r.map (·.1)
      · rw [if_pos h, if_pos (List.mem_cons_of_mem _ h)]
      · rw [if_neg h, if_neg (by rw [List.mem_cons]; rintro (z | z); exact e z.symm; exact h z)]
        rfl
end
structure GrpOf {κ α : Type} [DecidableEq κ] (f : α → κ) (l : List α) (m : List (κ × List α)) : Prop where
  keys : m.map (·.1) = uq (l.map f)
  val : ∀ k, gval m k = l.filter fun x => decide (f x = k)
theorem GrpOf.nil {κ α : Type} [DecidableEq κ] (f : α → κ) : GrpOf f [] [] := ⟨rfl, fun _ => rfl⟩
theorem GrpOf.snoc {κ α : Type} [DecidableEq κ] {f : α → κ} {l : List α} {m : List (κ × List α)} (h : GrpOf f l m) (x : α) : GrpOf f (l ++ [x]) (grp m (f x) x) := by
  refine ⟨?_, fun k => ?_⟩
  · rw [grp_keys, h.keys, List.map_append, List.map_singleton, uq_snoc]
  · rw [gval_grp, h.val, List.filter_append]
    by_cases e : f x = k
    · rw [if_pos e, List.filter_cons_of_pos (by simpa using e), List.filter_nil]
    · rw [if_neg e, List.filter_cons_of_neg (by simpa using e), List.filter_nil, List.append_nil]
end Sp
set_option maxHeartbeats 0
set_option synthInstance.maxSize 2000
namespace K08
open PySem L2 Sp
structure CountsV where
  size : Int
  rows : (Dct Txt (Dct Txt Int))
  whole : (Dct Txt Int)
instance : Inhabited CountsV := ⟨⟨default, default, default⟩⟩
instance : Ob CountsV := ⟨"Counts", fun m => [("size", pu m.size), ("rows", pu m.rows), ("whole", pu m.whole)]⟩
instance : Enc CountsV := obEnc inferInstance
instance : ObOk CountsV := ⟨Iff.rfl⟩
def toldT : Ex → Option Txt
  | .BadWord => some (tx "word")
  | .BadRule => some (tx "rule")
  | .BadCount => some (tx "count")
  | .NoSuch => some (tx "no such")
  | .NoWay => some (tx "no way")
  | .TooLarge => some (tx "large")
  | .BadDeed => none
  | .BadText _ => some (tx "text")
  | .BadPaper _ => none
abbrev check_word_w (word1 : Txt) (Q : Unit → Prop) (E : Ex → Prop) : Prop :=
  (word1.length ≤ sizeLine ∧ ((decide ((1 : Int) ≤ (word1.length : Int)) = true → (24 : Int) = (24 : Int)) ∧ (((!(decide ((1 : Int) ≤ (word1.length : Int)) && decide ((word1.length : Int) ≤ (24 : Int)))) = false → ((word1.map fun c => [c]) = (word1.map fun c => [c]) ∧ (∀ x2 ∈ (word1.map fun c => [c]), (!tin x2 (tx "abcdefghijklmnopqrstuvwxyz")) = (!tin x2 (tx "abcdefghijklmnopqrstuvwxyz"))) ∧ ((word1.map fun c => [c]).any (fun (x2 : Txt) => (!tin x2 (tx "abcdefghijklmnopqrstuvwxyz")))) = ((word1.map fun c => [c]).any (fun (x2 : Txt) => (!tin x2 (tx "abcdefghijklmnopqrstuvwxyz")))))) ∧ ((((!(decide ((1 : Int) ≤ (word1.length : Int)) && decide ((word1.length : Int) ≤ (24 : Int)))) || ((word1.map fun c => [c]).any (fun (x2 : Txt) => (!tin x2 (tx "abcdefghijklmnopqrstuvwxyz"))))) = true → E .BadWord) ∧ (((!(decide ((1 : Int) ≤ (word1.length : Int)) && decide ((word1.length : Int) ≤ (24 : Int)))) || ((word1.map fun c => [c]).any (fun (x2 : Txt) => (!tin x2 (tx "abcdefghijklmnopqrstuvwxyz"))))) = false → Q ())))))
abbrev check_word_W (t : Txt × Unit) (Q : Unit → Prop) (E : Ex → Prop) : Prop := check_word_w t.1 Q E
abbrev Rws : Type := List (Txt × List (Txt × Int))
abbrev Whl : Type := List (Txt × Int)
abbrev cput (start sign : Txt) (many : Int) (z : Rws × Whl) : Rws × Whl := (rset z.1 start (dput ((dval z.1 start).getD []) sign ((dval ((dval z.1 start).getD []) sign).getD (0 : Int) + many)), dput z.2 start ((dval z.2 start).getD (0 : Int) + many))
abbrev Counts_tell_c (start sign : Txt) (many : Int) (z : Rws × Whl) (nx : Rws × Whl → Prop) : Prop :=
  z.1.length < sizeLine ∧ ((dval (hop z.1 start) start).getD []).length < sizeLine ∧ z.2.length < sizeLine ∧ nx (cput start sign many (hop z.1 start, z.2))
abbrev Counts_tell_b (size : Int) (text : Txt) (many k : Int) (z : Rws × Whl) (nx : Rws × Whl → Prop) : Prop :=
  (text.length ≤ sizeLine ∧ (text.length ≤ sizeLine ∧ inR text.length ((k + size) - (1 : Int)) ∧ Counts_tell_c (cutD text (some k) (some ((k + size) - (1 : Int)))) (ixS text ((k + size) - (1 : Int))) many z nx))
abbrev Counts_tell_w1 (size : Int) (text : Txt) (many : Int) (z : Rws × Whl) (Q : Rws × Whl → Prop) : Prop :=
  (text.length ≤ sizeLine ∧ ((-(2 ^ 62) ≤ (((text.length : Int) - size) + (1 : Int)) ∧ (((text.length : Int) - size) + (1 : Int)) < 2 ^ 62) ∧ (forW ((List.range ((((text.length : Int) - size) + (1 : Int))).toNat).map fun i : Nat => (i : Int)) z (fun (k : Int) (z : Rws × Whl) (nx : Rws × Whl → Prop) => Counts_tell_b size text many k z nx) Q)))
abbrev Counts_tell_w2 (size : Int) (word : Txt) (many : Int) (z : Rws × Whl) (Q : Rws × Whl → Prop) : Prop :=
  ((-(2 ^ 63) ≤ (size - (1 : Int)) ∧ List.length (tx ".") * ((size - (1 : Int))).toNat ≤ 16777216 ∧ (size - (1 : Int)) ≤ 16777216) ∧ (List.length (repS (tx ".") (size - (1 : Int))) + word.length ≤ sizeLine ∧ (List.length ((repS (tx ".") (size - (1 : Int))) ++ word) + List.length (tx ".") ≤ sizeLine ∧ (Counts_tell_w1 size (((repS (tx ".") (size - (1 : Int))) ++ word) ++ (tx ".")) many z Q))))
abbrev Counts_tell_W (t : Int × (Rws × Whl) × Txt × Int) (Q : Rws × Whl → Prop) (E : Ex → Prop) : Prop := Cl (check_word_W (t.2.2.1, ())) (fun (_ : Unit) => Counts_tell_w2 t.1 t.2.2.1 t.2.2.2 t.2.1 Q) E
abbrev Counts_init_w1 (words : List Txt) (size : Int) (Q : CountsV → Prop) (E : Ex → Prop) : Prop :=
  forW words (([], []) : Rws × Whl) (fun (x : Txt) (z : Rws × Whl) (nx : Rws × Whl → Prop) => Cl (Counts_tell_W (size, z, x, (1 : Int))) nx E) (fun (z : Rws × Whl) => Q (CountsV.mk size (Dct.mk (frzH z.1)) (Dct.mk z.2)))
abbrev Counts_init_w (words : List Txt) (size : Int) (Q : CountsV → Prop) (E : Ex → Prop) : Prop :=
  ((decide ((1 : Int) ≤ size) = true → (4 : Int) = (4 : Int)) ∧ (((!(decide ((1 : Int) ≤ size) && decide (size ≤ (4 : Int)))) = true → E .BadCount) ∧ ((!(decide ((1 : Int) ≤ size) && decide (size ≤ (4 : Int)))) = false → Counts_init_w1 words size Q E)))
abbrev Counts_init_W (t : (List Txt) × Int × Unit) (Q : CountsV → Prop) (E : Ex → Prop) : Prop := Counts_init_w t.1 t.2.1 Q E
abbrev Counts_share_w (self1 : CountsV) (start2 : Txt) (sign3 : Txt) (Q : (Int × Int) → Prop) (E : Ex → Prop) : Prop :=
  Q (((dval ((dval self1.rows.kvs start2).getD (Dct.mk ([] : List (Txt × Int)))).kvs sign3).getD (0 : Int)), ((dval self1.whole.kvs start2).getD (0 : Int)))
abbrev Counts_share_W (t : CountsV × Txt × Txt × Unit) (Q : (Int × Int) → Prop) (E : Ex → Prop) : Prop := Counts_share_w t.1 t.2.1 t.2.2.1 Q E
abbrev Counts_smooth_w (self1 : CountsV) (start2 : Txt) (sign3 : Txt) (Q : (Int × Int) → Prop) (E : Ex → Prop) : Prop :=
  (Cl (Counts_share_W (self1, start2, sign3, ())) (fun (r4 : (Int × Int)) => Q ((r4.1 + (1 : Int)), (r4.2 + (27 : Int)))) E)
abbrev Counts_smooth_W (t : CountsV × Txt × Txt × Unit) (Q : (Int × Int) → Prop) (E : Ex → Prop) : Prop := Counts_smooth_w t.1 t.2.1 t.2.2.1 Q E
abbrev Counts_steps_along_w1 (self1 : CountsV) (text3 : Txt) (Q : (Tup (Txt × Txt)) → Prop) : Prop :=
  (text3.length ≤ sizeLine ∧ ((-(2 ^ 62) ≤ (((text3.length : Int) - self1.size) + (1 : Int)) ∧ (((text3.length : Int) - self1.size) + (1 : Int)) < 2 ^ 62) ∧ (List.length ((List.range ((((text3.length : Int) - self1.size) + (1 : Int))).toNat).map fun i : Nat => (i : Int)) ≤ sizeLine ∧ (∀ x4 ∈ ((List.range ((((text3.length : Int) - self1.size) + (1 : Int))).toNat).map fun i : Nat => (i : Int)), (text3.length ≤ sizeLine ∧ (text3.length ≤ sizeLine ∧ inR text3.length ((x4 + self1.size) - (1 : Int)) ∧ ((cutD text3 (some x4) (some ((x4 + self1.size) - (1 : Int)))), (ixS text3 ((x4 + self1.size) - (1 : Int)))) = ((cutD text3 (some x4) (some ((x4 + self1.size) - (1 : Int)))), (ixS text3 ((x4 + self1.size) - (1 : Int))))))) ∧ Q (PySem.W.Tup.mk (((List.range ((((text3.length : Int) - self1.size) + (1 : Int))).toNat).map fun i : Nat => (i : Int)).map (fun (x4 : Int) => ((cutD text3 (some x4) (some ((x4 + self1.size) - (1 : Int)))), (ixS text3 ((x4 + self1.size) - (1 : Int))))))))))
abbrev Counts_steps_along_w (self1 : CountsV) (word2 : Txt) (Q : (Tup (Txt × Txt)) → Prop) (E : Ex → Prop) : Prop :=
  ((-(2 ^ 63) ≤ (self1.size - (1 : Int)) ∧ List.length (tx ".") * ((self1.size - (1 : Int))).toNat ≤ 16777216 ∧ (self1.size - (1 : Int)) ≤ 16777216) ∧ (List.length (repS (tx ".") (self1.size - (1 : Int))) + word2.length ≤ sizeLine ∧ (List.length ((repS (tx ".") (self1.size - (1 : Int))) ++ word2) + List.length (tx ".") ≤ sizeLine ∧ (Counts_steps_along_w1 self1 (((repS (tx ".") (self1.size - (1 : Int))) ++ word2) ++ (tx ".")) Q))))
abbrev Counts_steps_along_W (t : CountsV × Txt × Unit) (Q : (Tup (Txt × Txt)) → Prop) (E : Ex → Prop) : Prop := Counts_steps_along_w t.1 t.2.1 Q E
abbrev lowest_w1 (nx7 : (Int × Int → Prop)) (a8 : Int) (b9 : Int) : Prop :=
  (0 < b9 ∧ nx7 (b9, (a8 % b9)))
abbrev lowest_w2 (top1 : Int) (bottom2 : Int) (a15 : Int) (Q : (Int × Int) → Prop) : Prop :=
  (((decide (a15 ≠ (0 : Int))) = true → (CDiv top1 a15 ∧ (CDiv bottom2 a15 ∧ ((top1 / a15), (bottom2 / a15)) = ((top1 / a15), (bottom2 / a15))))) ∧ ((decide (a15 ≠ (0 : Int))) = false → (top1, bottom2) = (top1, bottom2)) ∧ Q (if (decide (a15 ≠ (0 : Int))) = true then ((top1 / a15), (bottom2 / a15)) else (top1, bottom2)))
abbrev lowest_w3 (top1 : Int) (bottom2 : Int) (a3 : Int) (b4 : Int) (Q : (Int × Int) → Prop) : Prop :=
  (whileW (a3, b4) (fun (z5 : Int × Int) (k10 : Bool → Prop) => k10 (decide (z5.2 ≠ (0 : Int)))) (fun (z5 : Int × Int) (nx7 : Int × Int → Prop) => (lowest_w1 nx7 z5.1 z5.2)) (fun (z13 : Int × Int) => (lowest_w2 top1 bottom2 z13.1 Q)))
abbrev lowest_w (top1 : Int) (bottom2 : Int) (Q : (Int × Int) → Prop) (E : Ex → Prop) : Prop :=
  (lowest_w3 top1 bottom2 top1 bottom2 Q)
abbrev lowest_W (t : Int × Int × Unit) (Q : (Int × Int) → Prop) (E : Ex → Prop) : Prop := lowest_w t.1 t.2.1 Q E
abbrev Counts_chance_w1 (nx8 : (Int × Int → Prop)) (top9 : Int) (bottom10 : Int) (u12 : (Int × Int)) (E : Ex → Prop) : Prop :=
  (CMul top9 u12.1 ∧ (CMul bottom10 u12.2 ∧ (Cl (lowest_W ((top9 * u12.1), (bottom10 * u12.2), ())) (fun (r14 : (Int × Int)) => nx8 (r14.1, r14.2)) E)))
abbrev Counts_chance_w2 (nx8 : (Int × Int → Prop)) (top9 : Int) (bottom10 : Int) (u12 : (Int × Int)) (Q : (Int × Int) → Prop) (E : Ex → Prop) : Prop :=
  (((decide (u12.1 = (0 : Int))) = true → Q ((0 : Int), (1 : Int))) ∧ ((decide (u12.1 = (0 : Int))) = false → (Counts_chance_w1 nx8 top9 bottom10 u12 E)))
abbrev Counts_chance_w3 (self1 : CountsV) (x5 : (Txt × Txt)) (nx8 : (Int × Int → Prop)) (top9 : Int) (bottom10 : Int) (Q : (Int × Int) → Prop) (E : Ex → Prop) : Prop :=
  (Cl (Counts_share_W (self1, x5.1, x5.2, ())) (fun (r11 : (Int × Int)) => (Counts_chance_w2 nx8 top9 bottom10 r11 Q E)) E)
abbrev Counts_chance_w4 (top18 : Int) (bottom19 : Int) (Q : (Int × Int) → Prop) : Prop :=
  Q (top18, bottom19)
abbrev Counts_chance_w5 (self1 : CountsV) (word2 : Txt) (u3 : (Int × Int)) (Q : (Int × Int) → Prop) (E : Ex → Prop) : Prop :=
  (Cl (Counts_steps_along_W (self1, word2, ())) (fun (r4 : (Tup (Txt × Txt))) => (forW r4.items (u3.1, u3.2) (fun (x5 : (Txt × Txt)) (z6 : Int × Int) (nx8 : Int × Int → Prop) => (Counts_chance_w3 self1 x5 nx8 z6.1 z6.2 Q E)) (fun (z16 : Int × Int) => (Counts_chance_w4 z16.1 z16.2 Q)))) E)
abbrev Counts_chance_w (self1 : CountsV) (word2 : Txt) (Q : (Int × Int) → Prop) (E : Ex → Prop) : Prop :=
  (Counts_chance_w5 self1 word2 ((1 : Int), (1 : Int)) Q E)
abbrev Counts_chance_W (t : CountsV × Txt × Unit) (Q : (Int × Int) → Prop) (E : Ex → Prop) : Prop := Counts_chance_w t.1 t.2.1 Q E
abbrev Counts_smooth_chance_w1 (nx8 : (Int × Int → Prop)) (top9 : Int) (bottom10 : Int) (u12 : (Int × Int)) (E : Ex → Prop) : Prop :=
  (CMul top9 u12.1 ∧ (CMul bottom10 u12.2 ∧ (Cl (lowest_W ((top9 * u12.1), (bottom10 * u12.2), ())) (fun (r13 : (Int × Int)) => nx8 (r13.1, r13.2)) E)))
abbrev Counts_smooth_chance_w2 (self1 : CountsV) (x5 : (Txt × Txt)) (nx8 : (Int × Int → Prop)) (top9 : Int) (bottom10 : Int) (E : Ex → Prop) : Prop :=
  (Cl (Counts_smooth_W (self1, x5.1, x5.2, ())) (fun (r11 : (Int × Int)) => (Counts_smooth_chance_w1 nx8 top9 bottom10 r11 E)) E)
abbrev Counts_smooth_chance_w3 (top17 : Int) (bottom18 : Int) (Q : (Int × Int) → Prop) : Prop :=
  Q (top17, bottom18)
abbrev Counts_smooth_chance_w4 (self1 : CountsV) (word2 : Txt) (u3 : (Int × Int)) (Q : (Int × Int) → Prop) (E : Ex → Prop) : Prop :=
  (Cl (Counts_steps_along_W (self1, word2, ())) (fun (r4 : (Tup (Txt × Txt))) => (forW r4.items (u3.1, u3.2) (fun (x5 : (Txt × Txt)) (z6 : Int × Int) (nx8 : Int × Int → Prop) => (Counts_smooth_chance_w2 self1 x5 nx8 z6.1 z6.2 E)) (fun (z15 : Int × Int) => (Counts_smooth_chance_w3 z15.1 z15.2 Q)))) E)
abbrev Counts_smooth_chance_w (self1 : CountsV) (word2 : Txt) (Q : (Int × Int) → Prop) (E : Ex → Prop) : Prop :=
  (Counts_smooth_chance_w4 self1 word2 ((1 : Int), (1 : Int)) Q E)
abbrev Counts_smooth_chance_W (t : CountsV × Txt × Unit) (Q : (Int × Int) → Prop) (E : Ex → Prop) : Prop := Counts_smooth_chance_w t.1 t.2.1 Q E
abbrev Counts_likelier_w1 (one2 : Txt) (other3 : Txt) (a6 : (Int × Int)) (b7 : (Int × Int)) (Q : Txt → Prop) : Prop :=
  (CMul b7.1 a6.2 ∧ (CMul a6.1 b7.2 ∧ (((decide ((a6.1 * b7.2) < (b7.1 * a6.2))) = true → other3 = other3) ∧ ((decide ((a6.1 * b7.2) < (b7.1 * a6.2))) = false → one2 = one2) ∧ Q (if (decide ((a6.1 * b7.2) < (b7.1 * a6.2))) = true then other3 else one2))))
abbrev Counts_likelier_w (self1 : CountsV) (one2 : Txt) (other3 : Txt) (Q : Txt → Prop) (E : Ex → Prop) : Prop :=
  (Cl (Counts_smooth_chance_W (self1, one2, ())) (fun (r4 : (Int × Int)) => (Cl (Counts_smooth_chance_W (self1, other3, ())) (fun (r5 : (Int × Int)) => (Counts_likelier_w1 one2 other3 r4 r5 Q)) E)) E)
abbrev Counts_likelier_W (t : CountsV × Txt × Txt × Unit) (Q : Txt → Prop) (E : Ex → Prop) : Prop := Counts_likelier_w t.1 t.2.1 t.2.2.1 Q E
abbrev Counts_next_letters_w1 (rows5 : (Dct Txt Int)) (Q : (Tup (Txt × Int)) → Prop) : Prop :=
  ((∀ x6 ∈ rows5.kvs, (((0 : Int) - x6.2), x6.1) = (((0 : Int) - x6.2), x6.1)) ∧ Q (PySem.W.Tup.mk (srtK (fun (x6 : (Txt × Int)) => (((0 : Int) - x6.2), x6.1)) rows5.kvs)))
abbrev Counts_next_letters_w2 (self1 : CountsV) (run4 : Txt) (Q : (Tup (Txt × Int)) → Prop) : Prop :=
  (Counts_next_letters_w1 ((dval self1.rows.kvs run4).getD (Dct.mk ([] : List (Txt × Int)))) Q)
abbrev Counts_next_letters_w3 (self1 : CountsV) (text3 : Txt) (Q : (Tup (Txt × Int)) → Prop) : Prop :=
  (text3.length ≤ sizeLine ∧ (text3.length ≤ sizeLine ∧ (Counts_next_letters_w2 self1 (cutD text3 (some (((text3.length : Int) - self1.size) + (1 : Int))) none) Q)))
abbrev Counts_next_letters_w (self1 : CountsV) (start2 : Txt) (Q : (Tup (Txt × Int)) → Prop) (E : Ex → Prop) : Prop :=
  ((-(2 ^ 63) ≤ (self1.size - (1 : Int)) ∧ List.length (tx ".") * ((self1.size - (1 : Int))).toNat ≤ 16777216 ∧ (self1.size - (1 : Int)) ≤ 16777216) ∧ (List.length (repS (tx ".") (self1.size - (1 : Int))) + start2.length ≤ sizeLine ∧ (Counts_next_letters_w3 self1 ((repS (tx ".") (self1.size - (1 : Int))) ++ start2) Q)))
abbrev Counts_next_letters_W (t : CountsV × Txt × Unit) (Q : (Tup (Txt × Int)) → Prop) (E : Ex → Prop) : Prop := Counts_next_letters_w t.1 t.2.1 Q E
abbrev Counts_likeliest_w1 (nx7 : (Txt → Prop)) (word8 : Txt) (letter11 : Txt) (Q : Txt → Prop) : Prop :=
  (((decide (letter11 = (tx "."))) = true → Q word8) ∧ ((decide (letter11 = (tx "."))) = false → (word8.length + letter11.length ≤ sizeLine ∧ nx7 (word8 ++ letter11))))
abbrev Counts_likeliest_w2 (nx7 : (Txt → Prop)) (word8 : Txt) (rows10 : (Tup (Txt × Int))) (Q : Txt → Prop) : Prop :=
  (inR rows10.items.length (0 : Int) ∧ (Counts_likeliest_w1 nx7 word8 (ixD rows10.items (0 : Int)).1 Q))
abbrev Counts_likeliest_w3 (nx7 : (Txt → Prop)) (word8 : Txt) (rows10 : (Tup (Txt × Int))) (Q : Txt → Prop) (E : Ex → Prop) : Prop :=
  (((decide (rows10 = (PySem.W.Tup.mk ([] : List (Txt × Int))))) = true → E .NoWay) ∧ ((decide (rows10 = (PySem.W.Tup.mk ([] : List (Txt × Int))))) = false → (Counts_likeliest_w2 nx7 word8 rows10 Q)))
abbrev Counts_likeliest_w4 (self1 : CountsV) (nx7 : (Txt → Prop)) (word8 : Txt) (Q : Txt → Prop) (E : Ex → Prop) : Prop :=
  (Cl (Counts_next_letters_W (self1, word8, ())) (fun (r9 : (Tup (Txt × Int))) => (Counts_likeliest_w3 nx7 word8 r9 Q E)) E)
abbrev Counts_likeliest_w5 (E : Ex → Prop) : Prop :=
  E .NoWay
abbrev Counts_likeliest_w6 (self1 : CountsV) (most2 : Int) (word3 : Txt) (Q : Txt → Prop) (E : Ex → Prop) : Prop :=
  ((-(2 ^ 62) ≤ (most2 + (1 : Int)) ∧ (most2 + (1 : Int)) < 2 ^ 62) ∧ (forW ((List.range ((most2 + (1 : Int))).toNat).map fun i : Nat => (i : Int)) word3 (fun (x4 : Int) (z5 : Txt) (nx7 : Txt → Prop) => (Counts_likeliest_w4 self1 nx7 z5 Q E)) (fun (z14 : Txt) => (Counts_likeliest_w5 E))))
abbrev Counts_likeliest_w (self1 : CountsV) (most2 : Int) (Q : Txt → Prop) (E : Ex → Prop) : Prop :=
  (Counts_likeliest_w6 self1 most2 (tx "") Q E)
abbrev Counts_likeliest_W (t : CountsV × Int × Unit) (Q : Txt → Prop) (E : Ex → Prop) : Prop := Counts_likeliest_w t.1 t.2.1 Q E
abbrev Counts_strangest_w1 (nx12 : (Int → Prop)) (best18 : Int) : Prop :=
  nx12 best18
abbrev Counts_strangest_w2 (shares7 : (List (Int × Int))) (x9 : (Int × (Int × Int))) (nx12 : (Int → Prop)) (best13 : Int) : Prop :=
  (inR (shares7.length) best13 ∧ (CMul x9.2.1 (ixD shares7 best13).2 ∧ (inR (shares7.length) best13 ∧ (CMul (ixD shares7 best13).1 x9.2.2 ∧ (ifJ (decide ((x9.2.1 * (ixD shares7 best13).2) < ((ixD shares7 best13).1 * x9.2.2))) (fun (nx16 : Int → Prop) => nx16 x9.1) (fun (nx16 : Int → Prop) => nx16 best13) (fun (z14 : Int) => (Counts_strangest_w1 nx12 z14)))))))
abbrev Counts_strangest_w3 (best21 : Int) (Q : Int → Prop) : Prop :=
  Q best21
abbrev Counts_strangest_w4 (shares7 : (List (Int × Int))) (best8 : Int) (Q : Int → Prop) : Prop :=
  (forW (enumD shares7) best8 (fun (x9 : (Int × (Int × Int))) (z10 : Int) (nx12 : Int → Prop) => (Counts_strangest_w2 shares7 x9 nx12 z10)) (fun (z19 : Int) => (Counts_strangest_w3 z19 Q)))
abbrev Counts_strangest_w (self1 : CountsV) (word2 : Txt) (Q : Int → Prop) (E : Ex → Prop) : Prop :=
  (Cl (Counts_steps_along_W (self1, word2, ())) (fun (r3 : (Tup (Txt × Txt))) => (r3.items.length ≤ sizeLine ∧ ∃ h6 : (Txt × Txt) → (Int × Int), (∀ x4 ∈ r3.items, (Cl (Counts_smooth_W (self1, x4.1, x4.2, ())) (fun (r5 : (Int × Int)) => r5 = h6 x4) NoE)) ∧ (Counts_strangest_w4 (r3.items.map h6) (0 : Int) Q))) E)
abbrev Counts_strangest_W (t : CountsV × Txt × Unit) (Q : Int → Prop) (E : Ex → Prop) : Prop := Counts_strangest_w t.1 t.2.1 Q E
abbrev Counts_unseen_w (self1 : CountsV) (word2 : Txt) (Q : (Tup Int) → Prop) (E : Ex → Prop) : Prop :=
  (Cl (Counts_steps_along_W (self1, word2, ())) (fun (r3 : (Tup (Txt × Txt))) => (List.length (enumD r3.items) ≤ sizeLine ∧ ∃ (c6 : (Int × (Txt × Txt)) → Bool) (h7 : (Int × (Txt × Txt)) → Int), (∀ x4 ∈ (enumD r3.items), (Cl (Counts_share_W (self1, x4.2.1, x4.2.2, ())) (fun (r5 : (Int × Int)) => (decide (r5.1 = (0 : Int))) = c6 x4) NoE)) ∧ (∀ x4 ∈ (enumD r3.items), c6 x4 = true → x4.1 = h7 x4) ∧ Q (PySem.W.Tup.mk (((enumD r3.items).filter c6).map h7)))) E)
abbrev Counts_unseen_W (t : CountsV × Txt × Unit) (Q : (Tup Int) → Prop) (E : Ex → Prop) : Prop := Counts_unseen_w t.1 t.2.1 Q E
abbrev Counts_all_made_w1 (nx7 : ((List Txt) → Prop)) (rows18 : (List Txt)) (E : Ex → Prop) : Prop :=
  (((decide ((3000 : Int) < (rows18.length : Int))) = true → E .BadCount) ∧ ((decide ((3000 : Int) < (rows18.length : Int))) = false → nx7 rows18))
abbrev Counts_all_made_w2 (nx7 : ((List Txt) → Prop)) (pairs16 : (List (Txt × Txt))) (E : Ex → Prop) : Prop :=
  (pairs16.length ≤ sizeLine ∧ (∀ x17 ∈ pairs16, (decide (x17.2 ≠ (tx "."))) = (decide (x17.2 ≠ (tx ".")))) ∧ (∀ x17 ∈ pairs16, (decide (x17.2 ≠ (tx "."))) = true → (x17.1.length + x17.2.length ≤ sizeLine ∧ (x17.1 ++ x17.2) = (x17.1 ++ x17.2))) ∧ (Counts_all_made_w1 nx7 (srt ((pairs16.filter (fun (x17 : (Txt × Txt)) => (decide (x17.2 ≠ (tx "."))))).map (fun (x17 : (Txt × Txt)) => (x17.1 ++ x17.2)))) E))
abbrev Counts_all_made_w3 (self1 : CountsV) (nx7 : ((List Txt) → Prop)) (rows8 : (List Txt)) (E : Ex → Prop) : Prop :=
  (∃ (c12 : Txt → Bool) (inn13 : Txt → List (Txt × Int)) (c14 : Txt → (Txt × Int) → Bool) (h15 : Txt → (Txt × Int) → (Txt × Txt)), (∀ x9 ∈ rows8, true = c12 x9) ∧ (∀ x9 ∈ rows8, c12 x9 = true → (Cl (Counts_next_letters_W (self1, x9, ())) (fun (r10 : (Tup (Txt × Int))) => r10.items = inn13 x9) NoE)) ∧ (∀ x9 ∈ rows8, c12 x9 = true → ∀ x11 ∈ inn13 x9, true = c14 x9 x11) ∧ (∀ x9 ∈ rows8, c12 x9 = true → ∀ x11 ∈ inn13 x9, c14 x9 x11 = true → (x9, x11.1) = h15 x9 x11) ∧ List.length (tot2 c12 inn13 c14 h15 rows8) ≤ sizeLine ∧ (Counts_all_made_w2 nx7 (tot2 c12 inn13 c14 h15 rows8) E))
abbrev Counts_all_made_w4 (self1 : CountsV) (rows21 : (List Txt)) (Q : (Tup Txt) → Prop) : Prop :=
  (rows21.length ≤ sizeLine ∧ ∃ (c25 : Txt → Bool) (h26 : Txt → Txt), (∀ x22 ∈ rows21, (Cl (Counts_next_letters_W (self1, x22, ())) (fun (r23 : (Tup (Txt × Int))) => (r23.items.length ≤ sizeLine ∧ (∀ x24 ∈ r23.items, x24.1 = x24.1) ∧ ((inL (tx ".") (r23.items.map (fun (x24 : (Txt × Int)) => x24.1)))) = c25 x22)) NoE)) ∧ (∀ x22 ∈ rows21, c25 x22 = true → x22 = h26 x22) ∧ Q (PySem.W.Tup.mk ((rows21.filter c25).map h26)))
abbrev Counts_all_made_w5 (self1 : CountsV) (length2 : Int) (rows3 : (List Txt)) (Q : (Tup Txt) → Prop) (E : Ex → Prop) : Prop :=
  ((-(2 ^ 62) ≤ length2 ∧ length2 < 2 ^ 62) ∧ (forW ((List.range (length2).toNat).map fun i : Nat => (i : Int)) rows3 (fun (x4 : Int) (z5 : (List Txt)) (nx7 : (List Txt) → Prop) => (Counts_all_made_w3 self1 nx7 z5 E)) (fun (z19 : (List Txt)) => (Counts_all_made_w4 self1 z19 Q))))
abbrev Counts_all_made_w (self1 : CountsV) (length2 : Int) (Q : (Tup Txt) → Prop) (E : Ex → Prop) : Prop :=
  (Counts_all_made_w5 self1 length2 [(tx "")] Q E)
abbrev Counts_all_made_W (t : CountsV × Int × Unit) (Q : (Tup Txt) → Prop) (E : Ex → Prop) : Prop := Counts_all_made_w t.1 t.2.1 Q E
abbrev Counts_both_c (start : Txt) (p : Txt × Int) (z : Rws × Whl) (nx : Rws × Whl → Prop) : Prop :=
  (dval z.1 start).isSome = true ∧ ((dval z.1 start).getD []).length < sizeLine ∧ z.2.length < sizeLine ∧ nx (cput start p.1 p.2 z)
abbrev Counts_both_b (one : CountsV) (start : Txt) (z : Rws × Whl) (nx : Rws × Whl → Prop) : Prop :=
  z.1.length < sizeLine ∧ (dhas one.rows.kvs start = true ∧ forW (dgt one.rows.kvs start).kvs (hop z.1 start, z.2) (fun (p : Txt × Int) (z : Rws × Whl) (nx : Rws × Whl → Prop) => Counts_both_c start p z nx) nx)
abbrev Counts_both_w (self other : CountsV) (Q : CountsV → Prop) (E : Ex → Prop) : Prop :=
  ((decide (other.size ≠ self.size) = true → E .BadCount) ∧ (decide (other.size ≠ self.size) = false → ((1 : Int) ≤ self.size ∧ self.size ≤ (4 : Int)) ∧
    forW [self, other] (([], []) : Rws × Whl) (fun (one : CountsV) (z : Rws × Whl) (nx : Rws × Whl → Prop) => forW (one.rows.kvs.map (·.1)) z (fun (start : Txt) (z : Rws × Whl) (nx : Rws × Whl → Prop) => Counts_both_b one start z nx) nx) (fun (z : Rws × Whl) => Q (CountsV.mk self.size (Dct.mk (frzH z.1)) (Dct.mk z.2)))))
abbrev Counts_both_W (t : CountsV × CountsV × Unit) (Q : CountsV → Prop) (E : Ex → Prop) : Prop := Counts_both_w t.1 t.2.1 Q E
abbrev runs_in_w1 (rows4 : (List Txt)) (Q : (TupN (Txt × Int)) → Prop) : Prop :=
  (rows4.length ≤ sizeLine ∧ (∀ x5 ∈ rows4, (x5, (1 : Int)) = (x5, (1 : Int))) ∧ (List.length (srt ((Dct.mk (dmerge [] (rows4.map (fun (x5 : Txt) => (x5, (1 : Int)))))).kvs.map (·.1))) ≤ sizeLine ∧ (∀ x6 ∈ (srt ((Dct.mk (dmerge [] (rows4.map (fun (x5 : Txt) => (x5, (1 : Int)))))).kvs.map (·.1))), (x6, (cnt rows4 x6 : Int)) = (x6, (cnt rows4 x6 : Int))) ∧ Q (TupN.mk (PySem.W.Tup.mk ((srt ((Dct.mk (dmerge [] (rows4.map (fun (x5 : Txt) => (x5, (1 : Int)))))).kvs.map (·.1))).map (fun (x6 : Txt) => (x6, (cnt rows4 x6 : Int))))))))
abbrev runs_in_w2 (word1 : Txt) (size2 : Int) (Q : (TupN (Txt × Int)) → Prop) : Prop :=
  (word1.length ≤ sizeLine ∧ ((-(2 ^ 62) ≤ (((word1.length : Int) - size2) + (1 : Int)) ∧ (((word1.length : Int) - size2) + (1 : Int)) < 2 ^ 62) ∧ (List.length ((List.range ((((word1.length : Int) - size2) + (1 : Int))).toNat).map fun i : Nat => (i : Int)) ≤ sizeLine ∧ (∀ x3 ∈ ((List.range ((((word1.length : Int) - size2) + (1 : Int))).toNat).map fun i : Nat => (i : Int)), (word1.length ≤ sizeLine ∧ (cutD word1 (some x3) (some (x3 + size2))) = (cutD word1 (some x3) (some (x3 + size2))))) ∧ (runs_in_w1 (((List.range ((((word1.length : Int) - size2) + (1 : Int))).toNat).map fun i : Nat => (i : Int)).map (fun (x3 : Int) => (cutD word1 (some x3) (some (x3 + size2))))) Q))))
abbrev runs_in_w (word1 : Txt) (size2 : Int) (Q : (TupN (Txt × Int)) → Prop) (E : Ex → Prop) : Prop :=
  (((decide (size2 < (1 : Int))) = true → E .BadCount) ∧ ((decide (size2 < (1 : Int))) = false → (runs_in_w2 word1 size2 Q)))
abbrev runs_in_W (t : Txt × Int × Unit) (Q : (TupN (Txt × Int)) → Prop) (E : Ex → Prop) : Prop := runs_in_w t.1 t.2.1 Q E
abbrev run_likeness_w1 (u6 : ((Dct Txt Int) × (Dct Txt Int))) (shared8 : Int) (Q : (Int × Int) → Prop) : Prop :=
  (CMul (2 : Int) shared8 ∧ Q (((2 : Int) * shared8), ((u6.1.kvs.map (fun q => q.2)).sum + (u6.2.kvs.map (fun q => q.2)).sum)))
abbrev run_likeness_w2 (u6 : ((Dct Txt Int) × (Dct Txt Int))) (Q : (Int × Int) → Prop) : Prop :=
  (u6.1.kvs = u6.1.kvs ∧ (∀ x7 ∈ u6.1.kvs, (min x7.2 ((dval u6.2.kvs x7.1).getD (0 : Int))) = (min x7.2 ((dval u6.2.kvs x7.1).getD (0 : Int)))) ∧ SumOk (u6.1.kvs.map (fun (x7 : (Txt × Int)) => (min x7.2 ((dval u6.2.kvs x7.1).getD (0 : Int))))) ∧ (run_likeness_w1 u6 (u6.1.kvs.map (fun (x7 : (Txt × Int)) => (min x7.2 ((dval u6.2.kvs x7.1).getD (0 : Int))))).sum Q))
abbrev run_likeness_w (one1 : Txt) (other2 : Txt) (size3 : Int) (Q : (Int × Int) → Prop) (E : Ex → Prop) : Prop :=
  (Cl (runs_in_W (one1, size3, ())) (fun (r4 : (TupN (Txt × Int))) => (Cl (runs_in_W (other2, size3, ())) (fun (r5 : (TupN (Txt × Int))) => (run_likeness_w2 ((Dct.mk (dmerge [] r4.tup.items)), (Dct.mk (dmerge [] r5.tup.items))) Q)) E)) E)
abbrev run_likeness_W (t : Txt × Txt × Int × Unit) (Q : (Int × Int) → Prop) (E : Ex → Prop) : Prop := run_likeness_w t.1 t.2.1 t.2.2.1 Q E
abbrev most_like_w1 (nx9 : ((Option (T3 Int Int Txt)) → Prop)) (best17 : (Option (T3 Int Int Txt))) : Prop :=
  nx9 best17
abbrev most_like_w2 (x6 : Txt) (nx9 : ((Option (T3 Int Int Txt)) → Prop)) (best10 : (Option (T3 Int Int Txt))) (u12 : (Int × Int)) : Prop :=
  (((decide ((0 : Int) < u12.1)) = true → ((best10.isNone = false → (best10.isSome = true ∧ (CMul u12.1 (optG best10).b ∧ (best10.isSome = true ∧ (CMul (optG best10).a u12.2 ∧ (decide (((optG best10).a * u12.2) < (u12.1 * (optG best10).b))) = (decide (((optG best10).a * u12.2) < (u12.1 * (optG best10).b)))))))) ∧ (best10.isNone || (decide (((optG best10).a * u12.2) < (u12.1 * (optG best10).b)))) = (best10.isNone || (decide (((optG best10).a * u12.2) < (u12.1 * (optG best10).b)))))) ∧ (ifJ ((decide ((0 : Int) < u12.1)) && (best10.isNone || (decide (((optG best10).a * u12.2) < (u12.1 * (optG best10).b))))) (fun (nx15 : (Option (T3 Int Int Txt)) → Prop) => nx15 (some (PySem.W.T3.mk u12.1 u12.2 x6))) (fun (nx15 : (Option (T3 Int Int Txt)) → Prop) => nx15 best10) (fun (z13 : (Option (T3 Int Int Txt))) => (most_like_w1 nx9 z13))))
abbrev most_like_w3 (word2 : Txt) (size3 : Int) (x6 : Txt) (nx9 : ((Option (T3 Int Int Txt)) → Prop)) (best10 : (Option (T3 Int Int Txt))) (E : Ex → Prop) : Prop :=
  (Cl (run_likeness_W (word2, x6, size3, ())) (fun (r11 : (Int × Int)) => (most_like_w2 x6 nx9 best10 r11)) E)
abbrev most_like_w4 (best20 : (Option (T3 Int Int Txt))) (Q : Txt → Prop) (E : Ex → Prop) : Prop :=
  ((best20.isNone = true → E .NoWay) ∧ (best20.isNone = false → (best20.isSome = true ∧ Q (optG best20).c)))
abbrev most_like_w5 (words1 : (List Txt)) (word2 : Txt) (size3 : Int) (best4 : (Option (T3 Int Int Txt))) (Q : Txt → Prop) (E : Ex → Prop) : Prop :=
  (words1.length ≤ sizeLine ∧ (∀ x5 ∈ words1, (x5, (1 : Int)) = (x5, (1 : Int))) ∧ (forW (srt ((Dct.mk (dmerge [] (words1.map (fun (x5 : Txt) => (x5, (1 : Int)))))).kvs.map (·.1))) best4 (fun (x6 : Txt) (z7 : (Option (T3 Int Int Txt))) (nx9 : (Option (T3 Int Int Txt)) → Prop) => (most_like_w3 word2 size3 x6 nx9 z7 E)) (fun (z18 : (Option (T3 Int Int Txt))) => (most_like_w4 z18 Q E))))
abbrev most_like_w (words1 : (List Txt)) (word2 : Txt) (size3 : Int) (Q : Txt → Prop) (E : Ex → Prop) : Prop :=
  (most_like_w5 words1 word2 size3 (none : (Option (T3 Int Int Txt))) Q E)
abbrev most_like_W (t : (List Txt) × Txt × Int × Unit) (Q : Txt → Prop) (E : Ex → Prop) : Prop := most_like_w t.1 t.2.1 t.2.2.1 Q E
abbrev law_flat_w1 (x3 : (List (Txt × Txt))) (nx6 : ((List (Txt × Txt)) → Prop)) (found7 : (List (Txt × Txt))) : Prop :=
  (found7.length + x3.length ≤ sizeLine ∧ nx6 (found7 ++ x3))
abbrev law_flat_w2 (found11 : (List (Txt × Txt))) (Q : (List (Txt × Txt)) → Prop) : Prop :=
  Q found11
abbrev law_flat_w3 (rows1 : (List (List (Txt × Txt)))) (found2 : (List (Txt × Txt))) (Q : (List (Txt × Txt)) → Prop) : Prop :=
  (forW rows1 found2 (fun (x3 : (List (Txt × Txt))) (z4 : (List (Txt × Txt))) (nx6 : (List (Txt × Txt)) → Prop) => (law_flat_w1 x3 nx6 z4)) (fun (z9 : (List (Txt × Txt))) => (law_flat_w2 z9 Q)))
abbrev law_flat_w (rows1 : (List (List (Txt × Txt)))) (Q : (List (Txt × Txt)) → Prop) (E : Ex → Prop) : Prop :=
  (law_flat_w3 rows1 ([] : List (Txt × Txt)) Q)
abbrev law_flat_W (t : (List (List (Txt × Txt))) × Unit) (Q : (List (Txt × Txt)) → Prop) (E : Ex → Prop) : Prop := law_flat_w t.1 Q E
abbrev law_flat_2_w1 (x3 : (List Txt)) (nx6 : ((List Txt) → Prop)) (found7 : (List Txt)) : Prop :=
  (found7.length + x3.length ≤ sizeLine ∧ nx6 (found7 ++ x3))
abbrev law_flat_2_w2 (found11 : (List Txt)) (Q : (List Txt) → Prop) : Prop :=
  Q found11
abbrev law_flat_2_w3 (rows1 : (List (List Txt))) (found2 : (List Txt)) (Q : (List Txt) → Prop) : Prop :=
  (forW rows1 found2 (fun (x3 : (List Txt)) (z4 : (List Txt)) (nx6 : (List Txt) → Prop) => (law_flat_2_w1 x3 nx6 z4)) (fun (z9 : (List Txt)) => (law_flat_2_w2 z9 Q)))
abbrev law_flat_2_w (rows1 : (List (List Txt))) (Q : (List Txt) → Prop) (E : Ex → Prop) : Prop :=
  (law_flat_2_w3 rows1 ([] : List Txt) Q)
abbrev law_flat_2_W (t : (List (List Txt)) × Unit) (Q : (List Txt) → Prop) (E : Ex → Prop) : Prop := law_flat_2_w t.1 Q E
abbrev law_word_w (letters1 : Txt) (least2 : Int) (most3 : Int) (Q : Txt → Prop) (E : Ex → Prop) : Prop :=
  (ClD (rollW (((most3 - least2) + (1 : Int)), ())) fun (r4 : Int) => ((-(2 ^ 62) ≤ (least2 + r4) ∧ (least2 + r4) < 2 ^ 62) ∧ (List.length ((List.range ((least2 + r4)).toNat).map fun i : Nat => (i : Int)) ≤ sizeLine ∧ ∃ P7 : Int → Txt → Prop, (∀ x5 ∈ ((List.range ((least2 + r4)).toNat).map fun i : Nat => (i : Int)), ((letters1.length ≤ sizeLine ∧ ClD (rollW ((letters1.length : Int), ())) fun (r6 : Int) => (letters1.length ≤ sizeLine ∧ inR letters1.length r6 ∧ P7 x5 (ixS letters1 r6))))) ∧ ∀ ys8, Each P7 ((List.range ((least2 + r4)).toNat).map fun i : Nat => (i : Int)) ys8 → (lenSum ys8 + ys8.length * List.length (tx "") ≤ 16777216 ∧ Q (joinT (tx "") ys8)))))
abbrev law_word_W (t : Txt × Int × Int × Unit) (Q : Txt → Prop) (E : Ex → Prop) : Prop := law_word_w t.1 t.2.1 t.2.2.1 Q E
abbrev law_unlike_w (words1 : (List Txt)) (Q : (List Txt) → Prop) (E : Ex → Prop) : Prop :=
  (words1.length ≤ sizeLine ∧ (∀ x2 ∈ words1, (x2, (1 : Int)) = (x2, (1 : Int))) ∧ Q (srt ((Dct.mk (dmerge [] (words1.map (fun (x2 : Txt) => (x2, (1 : Int)))))).kvs.map (·.1))))
abbrev law_unlike_W (t : (List Txt) × Unit) (Q : (List Txt) → Prop) (E : Ex → Prop) : Prop := law_unlike_w t.1 Q E
abbrev law_steps_w1 (word1 : Txt) (size2 : Int) (text3 : Txt) (Q : (List (Txt × Txt)) → Prop) : Prop :=
  (word1.length ≤ sizeLine ∧ ((-(2 ^ 62) ≤ ((word1.length : Int) + (1 : Int)) ∧ ((word1.length : Int) + (1 : Int)) < 2 ^ 62) ∧ (List.length ((List.range (((word1.length : Int) + (1 : Int))).toNat).map fun i : Nat => (i : Int)) ≤ sizeLine ∧ (∀ x4 ∈ ((List.range (((word1.length : Int) + (1 : Int))).toNat).map fun i : Nat => (i : Int)), (text3.length ≤ sizeLine ∧ (text3.length ≤ sizeLine ∧ inR text3.length ((x4 + size2) - (1 : Int)) ∧ ((cutD text3 (some x4) (some ((x4 + size2) - (1 : Int)))), (ixS text3 ((x4 + size2) - (1 : Int)))) = ((cutD text3 (some x4) (some ((x4 + size2) - (1 : Int)))), (ixS text3 ((x4 + size2) - (1 : Int))))))) ∧ Q (((List.range (((word1.length : Int) + (1 : Int))).toNat).map fun i : Nat => (i : Int)).map (fun (x4 : Int) => ((cutD text3 (some x4) (some ((x4 + size2) - (1 : Int)))), (ixS text3 ((x4 + size2) - (1 : Int)))))))))
abbrev law_steps_w (word1 : Txt) (size2 : Int) (Q : (List (Txt × Txt)) → Prop) (E : Ex → Prop) : Prop :=
  ((-(2 ^ 63) ≤ (size2 - (1 : Int)) ∧ List.length (tx ".") * ((size2 - (1 : Int))).toNat ≤ 16777216 ∧ (size2 - (1 : Int)) ≤ 16777216) ∧ (List.length (repS (tx ".") (size2 - (1 : Int))) + word1.length ≤ sizeLine ∧ (List.length ((repS (tx ".") (size2 - (1 : Int))) ++ word1) + List.length (tx ".") ≤ sizeLine ∧ (law_steps_w1 word1 size2 (((repS (tx ".") (size2 - (1 : Int))) ++ word1) ++ (tx ".")) Q))))
abbrev law_steps_W (t : Txt × Int × Unit) (Q : (List (Txt × Txt)) → Prop) (E : Ex → Prop) : Prop := law_steps_w t.1 t.2.1 Q E
abbrev law_same_w1 (share1 : (Int × Int)) (Q : Bool → Prop) : Prop :=
  ((-(2 ^ 62) ≤ (2 : Int) ∧ (2 : Int) < 2 ^ 62 ∧ -(2 ^ 62) ≤ ((min share1.2 (999 : Int)) + (1 : Int)) ∧ ((min share1.2 (999 : Int)) + (1 : Int)) < 2 ^ 62) ∧ (List.length ((List.range (((min share1.2 (999 : Int)) + (1 : Int)) - (2 : Int)).toNat).map fun i : Nat => (2 : Int) + (i : Int)) ≤ sizeLine ∧ (∀ x5 ∈ ((List.range (((min share1.2 (999 : Int)) + (1 : Int)) - (2 : Int)).toNat).map fun i : Nat => (2 : Int) + (i : Int)), (0 < x5 ∧ (((decide ((share1.1 % x5) = (0 : Int))) = true → (0 < x5 ∧ (((decide ((share1.2 % x5) = (0 : Int))) = true → (decide ((0 : Int) < share1.1)) = (decide ((0 : Int) < share1.1))) ∧ ((decide ((share1.2 % x5) = (0 : Int))) && (decide ((0 : Int) < share1.1))) = ((decide ((share1.2 % x5) = (0 : Int))) && (decide ((0 : Int) < share1.1)))))) ∧ ((decide ((share1.1 % x5) = (0 : Int))) && ((decide ((share1.2 % x5) = (0 : Int))) && (decide ((0 : Int) < share1.1)))) = ((decide ((share1.1 % x5) = (0 : Int))) && ((decide ((share1.2 % x5) = (0 : Int))) && (decide ((0 : Int) < share1.1))))))) ∧ (∀ x5 ∈ ((List.range (((min share1.2 (999 : Int)) + (1 : Int)) - (2 : Int)).toNat).map fun i : Nat => (2 : Int) + (i : Int)), ((decide ((share1.1 % x5) = (0 : Int))) && ((decide ((share1.2 % x5) = (0 : Int))) && (decide ((0 : Int) < share1.1)))) = true → x5 = x5) ∧ Q (decide (((((List.range (((min share1.2 (999 : Int)) + (1 : Int)) - (2 : Int)).toNat).map fun i : Nat => (2 : Int) + (i : Int)).filter (fun (x5 : Int) => ((decide ((share1.1 % x5) = (0 : Int))) && ((decide ((share1.2 % x5) = (0 : Int))) && (decide ((0 : Int) < share1.1)))))).map (fun (x5 : Int) => x5)) = ([] : List Int)))))
abbrev law_same_w (share1 : (Int × Int)) (top2 : Int) (bottom3 : Int) (Q : Bool → Prop) (E : Ex → Prop) : Prop :=
  (CMul share1.1 bottom3 ∧ (CMul top2 share1.2 ∧ (((decide ((share1.1 * bottom3) ≠ (top2 * share1.2))) = true → Q false) ∧ ((decide ((share1.1 * bottom3) ≠ (top2 * share1.2))) = false → (law_same_w1 share1 Q)))))
abbrev law_same_W (t : (Int × Int) × Int × Int × Unit) (Q : Bool → Prop) (E : Ex → Prop) : Prop := law_same_w t.1 t.2.1 t.2.2.1 Q E
abbrev law_product_w1 (x3 : (Int × Int)) (nx6 : (Int × Int → Prop)) (top7 : Int) (bottom8 : Int) : Prop :=
  (CMul top7 x3.1 ∧ (CMul bottom8 x3.2 ∧ nx6 ((top7 * x3.1), (bottom8 * x3.2))))
abbrev law_product_w2 (top13 : Int) (bottom14 : Int) (Q : (Int × Int) → Prop) : Prop :=
  Q (top13, bottom14)
abbrev law_product_w3 (pairs1 : (List (Int × Int))) (u2 : (Int × Int)) (Q : (Int × Int) → Prop) : Prop :=
  (forW pairs1 (u2.1, u2.2) (fun (x3 : (Int × Int)) (z4 : Int × Int) (nx6 : Int × Int → Prop) => (law_product_w1 x3 nx6 z4.1 z4.2)) (fun (z11 : Int × Int) => (law_product_w2 z11.1 z11.2 Q)))
abbrev law_product_w (pairs1 : (List (Int × Int))) (Q : (Int × Int) → Prop) (E : Ex → Prop) : Prop :=
  (law_product_w3 pairs1 ((1 : Int), (1 : Int)) Q)
abbrev law_product_W (t : (List (Int × Int)) × Unit) (Q : (Int × Int) → Prop) (E : Ex → Prop) : Prop := law_product_w t.1 Q E
abbrev law_cases1_w1 (Q : Bool → Prop) : Prop :=
  (Cl (runs_in_W ((tx "a"), (0 : Int), ())) (fun (r4 : (TupN (Txt × Int))) => (((decide ((Sum.inl r4.tup : ((Tup (Txt × Int)) ⊕ Txt)) ≠ (Sum.inr (tx "count") : ((Tup (Txt × Int)) ⊕ Txt)))) = true → Q false) ∧ ((decide ((Sum.inl r4.tup : ((Tup (Txt × Int)) ⊕ Txt)) ≠ (Sum.inr (tx "count") : ((Tup (Txt × Int)) ⊕ Txt)))) = false → Q true))) (fun e => ∃ t5, toldT e = some t5 ∧ (((decide ((Sum.inr t5 : ((Tup (Txt × Int)) ⊕ Txt)) ≠ (Sum.inr (tx "count") : ((Tup (Txt × Int)) ⊕ Txt)))) = true → Q false) ∧ ((decide ((Sum.inr t5 : ((Tup (Txt × Int)) ⊕ Txt)) ≠ (Sum.inr (tx "count") : ((Tup (Txt × Int)) ⊕ Txt)))) = false → Q true))))
abbrev law_cases1_w  (Q : Bool → Prop) (E : Ex → Prop) : Prop :=
  (Cl (Counts_init_W ([(tx "A")], (1 : Int), ())) (fun (r1 : CountsV) => (((!isT (Sum.inl r1 : (CountsV ⊕ Txt)) (tx "word")) = true → Q false) ∧ ((!isT (Sum.inl r1 : (CountsV ⊕ Txt)) (tx "word")) = false → (law_cases1_w1 Q)))) (fun e => ∃ t2, toldT e = some t2 ∧ (((!isT (Sum.inr t2 : (CountsV ⊕ Txt)) (tx "word")) = true → Q false) ∧ ((!isT (Sum.inr t2 : (CountsV ⊕ Txt)) (tx "word")) = false → (law_cases1_w1 Q)))))
abbrev law_cases1_W (t : Unit) (Q : Bool → Prop) (E : Ex → Prop) : Prop := law_cases1_w  Q E
abbrev law_rest1_w1 (nx22 : ((List Txt) → Prop)) (rows23 : (List Txt)) : Prop :=
  (rows23.length ≤ sizeLine ∧ (∀ x24 ∈ rows23, (List.length ((tx "abc").map fun c => [c]) ≤ sizeLine ∧ (∀ x25 ∈ ((tx "abc").map fun c => [c]), (x24.length + x25.length ≤ sizeLine ∧ (x24 ++ x25) = (x24 ++ x25))) ∧ (((tx "abc").map fun c => [c]).map (fun (x25 : Txt) => (x24 ++ x25))) = (((tx "abc").map fun c => [c]).map (fun (x25 : Txt) => (x24 ++ x25))))) ∧ (Cl (law_flat_2_W ((rows23.map (fun (x24 : Txt) => (((tx "abc").map fun c => [c]).map (fun (x25 : Txt) => (x24 ++ x25))))), ())) (fun (r26 : (List Txt)) => nx22 r26) NoE))
abbrev law_rest1_w2 (runs52 : (List Txt)) (x59 : Txt) (nx62 : ((List (T3 Int Int Txt)) → Prop)) (marks63 : (List (T3 Int Int Txt))) (there65 : (List Txt)) (shared68 : Int) : Prop :=
  (((decide ((0 : Int) < shared68)) = true → (CMul (2 : Int) shared68 ∧ [(PySem.W.T3.mk ((2 : Int) * shared68) ((runs52.length : Int) + (there65.length : Int)) x59)] = [(PySem.W.T3.mk ((2 : Int) * shared68) ((runs52.length : Int) + (there65.length : Int)) x59)])) ∧ ((decide ((0 : Int) < shared68)) = false → ([] : List (T3 Int Int Txt)) = ([] : List (T3 Int Int Txt))) ∧ (marks63.length + List.length (if (decide ((0 : Int) < shared68)) = true then [(PySem.W.T3.mk ((2 : Int) * shared68) ((runs52.length : Int) + (there65.length : Int)) x59)] else ([] : List (T3 Int Int Txt))) ≤ sizeLine ∧ nx62 (marks63 ++ (if (decide ((0 : Int) < shared68)) = true then [(PySem.W.T3.mk ((2 : Int) * shared68) ((runs52.length : Int) + (there65.length : Int)) x59)] else ([] : List (T3 Int Int Txt))))))
abbrev law_rest1_w3 (word5 : Txt) (many50 : Int) (runs52 : (List Txt)) (x59 : Txt) (nx62 : ((List (T3 Int Int Txt)) → Prop)) (marks63 : (List (T3 Int Int Txt))) (there65 : (List Txt)) (shared68 : Int) (Q : Bool → Prop) : Prop :=
  (Cl (run_likeness_W (word5, x59, many50, ())) (fun (r69 : (Int × Int)) => (CMul (2 : Int) shared68 ∧ (((decide (r69 ≠ (((2 : Int) * shared68), ((runs52.length : Int) + (there65.length : Int))))) = true → Q false) ∧ ((decide (r69 ≠ (((2 : Int) * shared68), ((runs52.length : Int) + (there65.length : Int))))) = false → (law_rest1_w2 runs52 x59 nx62 marks63 there65 shared68))))) NoE)
abbrev law_rest1_w4 (word5 : Txt) (many50 : Int) (runs52 : (List Txt)) (x59 : Txt) (nx62 : ((List (T3 Int Int Txt)) → Prop)) (marks63 : (List (T3 Int Int Txt))) (there65 : (List Txt)) (Q : Bool → Prop) : Prop :=
  (Cl (law_unlike_W (runs52, ())) (fun (r66 : (List Txt)) => (r66.length ≤ sizeLine ∧ (∀ x67 ∈ r66, (min (cnt runs52 x67 : Int) (cnt there65 x67 : Int)) = (min (cnt runs52 x67 : Int) (cnt there65 x67 : Int))) ∧ (law_rest1_w3 word5 many50 runs52 x59 nx62 marks63 there65 (r66.map (fun (x67 : Txt) => (min (cnt runs52 x67 : Int) (cnt there65 x67 : Int)))).sum Q))) NoE)
abbrev law_rest1_w5 (word5 : Txt) (many50 : Int) (runs52 : (List Txt)) (x59 : Txt) (nx62 : ((List (T3 Int Int Txt)) → Prop)) (marks63 : (List (T3 Int Int Txt))) (Q : Bool → Prop) : Prop :=
  (x59.length ≤ sizeLine ∧ ((-(2 ^ 62) ≤ (((x59.length : Int) - many50) + (1 : Int)) ∧ (((x59.length : Int) - many50) + (1 : Int)) < 2 ^ 62) ∧ (List.length ((List.range ((((x59.length : Int) - many50) + (1 : Int))).toNat).map fun i : Nat => (i : Int)) ≤ sizeLine ∧ (∀ x64 ∈ ((List.range ((((x59.length : Int) - many50) + (1 : Int))).toNat).map fun i : Nat => (i : Int)), (x59.length ≤ sizeLine ∧ (cutD x59 (some x64) (some (x64 + many50))) = (cutD x59 (some x64) (some (x64 + many50))))) ∧ (law_rest1_w4 word5 many50 runs52 x59 nx62 marks63 (((List.range ((((x59.length : Int) - many50) + (1 : Int))).toNat).map fun i : Nat => (i : Int)).map (fun (x64 : Int) => (cutD x59 (some x64) (some (x64 + many50))))) Q))))
abbrev law_rest1_w6 (Q : Bool → Prop) : Prop :=
  (Cl (law_cases1_W ()) (fun (r89 : Bool) => (((!r89) = true → Q false) ∧ ((!r89) = false → Q true))) NoE)
abbrev law_rest1_w7 (counts3 : CountsV) (Q : Bool → Prop) : Prop :=
  (Cl (Counts_init_W (([] : List Txt), (4 : Int), ())) (fun (r86 : CountsV) => (Cl (Counts_both_W (counts3, r86, ())) (fun (r85 : CountsV) => (((!isT (Sum.inl r85 : (CountsV ⊕ Txt)) (tx "count")) = true → Q false) ∧ ((!isT (Sum.inl r85 : (CountsV ⊕ Txt)) (tx "count")) = false → (law_rest1_w6 Q)))) (fun e => ∃ t87, toldT e = some t87 ∧ (((!isT (Sum.inr t87 : (CountsV ⊕ Txt)) (tx "count")) = true → Q false) ∧ ((!isT (Sum.inr t87 : (CountsV ⊕ Txt)) (tx "count")) = false → (law_rest1_w6 Q)))))) (fun e => ∃ t87, toldT e = some t87 ∧ (((!isT (Sum.inr t87 : (CountsV ⊕ Txt)) (tx "count")) = true → Q false) ∧ ((!isT (Sum.inr t87 : (CountsV ⊕ Txt)) (tx "count")) = false → (law_rest1_w6 Q)))))
abbrev law_rest1_w8 (counts3 : CountsV) (Q : Bool → Prop) : Prop :=
  (Cl (lowest_W ((6 : Int), (4 : Int), ())) (fun (r81 : (Int × Int)) => (((decide (r81 ≠ ((3 : Int), (2 : Int)))) = true → ((true = true → Q false) ∧ (true = false → (law_rest1_w7 counts3 Q)))) ∧ ((decide (r81 ≠ ((3 : Int), (2 : Int)))) = false → (Cl (Counts_init_W (([] : List Txt), (5 : Int), ())) (fun (r82 : CountsV) => (((!isT (Sum.inl r82 : (CountsV ⊕ Txt)) (tx "count")) = true → Q false) ∧ ((!isT (Sum.inl r82 : (CountsV ⊕ Txt)) (tx "count")) = false → (law_rest1_w7 counts3 Q)))) (fun e => ∃ t83, toldT e = some t83 ∧ (((!isT (Sum.inr t83 : (CountsV ⊕ Txt)) (tx "count")) = true → Q false) ∧ ((!isT (Sum.inr t83 : (CountsV ⊕ Txt)) (tx "count")) = false → (law_rest1_w7 counts3 Q)))))))) NoE)
abbrev law_rest1_w9 (words1 : (List Txt)) (counts3 : CountsV) (word5 : Txt) (many50 : Int) (best77 : (List Txt)) (Q : Bool → Prop) : Prop :=
  (Cl (most_like_W (words1, word5, many50, ())) (fun (r78 : Txt) => (((decide (best77 ≠ ([] : List Txt))) = true → (inR (best77.length) (0 : Int) ∧ (ixD best77 (0 : Int)) = (ixD best77 (0 : Int)))) ∧ ((decide (best77 ≠ ([] : List Txt))) = false → (tx "no way") = (tx "no way")) ∧ (((decide (r78 ≠ (if (decide (best77 ≠ ([] : List Txt))) = true then (ixD best77 (0 : Int)) else (tx "no way")))) = true → Q false) ∧ ((decide (r78 ≠ (if (decide (best77 ≠ ([] : List Txt))) = true then (ixD best77 (0 : Int)) else (tx "no way")))) = false → (law_rest1_w8 counts3 Q))))) (fun e => ∃ t79, toldT e = some t79 ∧ (((decide (best77 ≠ ([] : List Txt))) = true → (inR (best77.length) (0 : Int) ∧ (ixD best77 (0 : Int)) = (ixD best77 (0 : Int)))) ∧ ((decide (best77 ≠ ([] : List Txt))) = false → (tx "no way") = (tx "no way")) ∧ (((decide (t79 ≠ (if (decide (best77 ≠ ([] : List Txt))) = true then (ixD best77 (0 : Int)) else (tx "no way")))) = true → Q false) ∧ ((decide (t79 ≠ (if (decide (best77 ≠ ([] : List Txt))) = true then (ixD best77 (0 : Int)) else (tx "no way")))) = false → (law_rest1_w8 counts3 Q))))))
abbrev law_rest1_w10 (words1 : (List Txt)) (counts3 : CountsV) (word5 : Txt) (many50 : Int) (marks74 : (List (T3 Int Int Txt))) (Q : Bool → Prop) : Prop :=
  (marks74.length ≤ sizeLine ∧ (∀ x75 ∈ marks74, (marks74.length ≤ sizeLine ∧ (∀ x76 ∈ marks74, (CMul x76.a x75.b ∧ (CMul x75.a x76.b ∧ (decide ((x75.a * x76.b) < (x76.a * x75.b))) = (decide ((x75.a * x76.b) < (x76.a * x75.b)))))) ∧ (∀ x76 ∈ marks74, (decide ((x75.a * x76.b) < (x76.a * x75.b))) = true → x76 = x76) ∧ (decide (((marks74.filter (fun (x76 : (T3 Int Int Txt)) => (decide ((x75.a * x76.b) < (x76.a * x75.b))))).map (fun (x76 : (T3 Int Int Txt)) => x76)) = ([] : List (T3 Int Int Txt)))) = (decide (((marks74.filter (fun (x76 : (T3 Int Int Txt)) => (decide ((x75.a * x76.b) < (x76.a * x75.b))))).map (fun (x76 : (T3 Int Int Txt)) => x76)) = ([] : List (T3 Int Int Txt)))))) ∧ (∀ x75 ∈ marks74, (decide (((marks74.filter (fun (x76 : (T3 Int Int Txt)) => (decide ((x75.a * x76.b) < (x76.a * x75.b))))).map (fun (x76 : (T3 Int Int Txt)) => x76)) = ([] : List (T3 Int Int Txt)))) = true → x75.c = x75.c) ∧ (law_rest1_w9 words1 counts3 word5 many50 ((marks74.filter (fun (x75 : (T3 Int Int Txt)) => (decide (((marks74.filter (fun (x76 : (T3 Int Int Txt)) => (decide ((x75.a * x76.b) < (x76.a * x75.b))))).map (fun (x76 : (T3 Int Int Txt)) => x76)) = ([] : List (T3 Int Int Txt)))))).map (fun (x75 : (T3 Int Int Txt)) => x75.c)) Q))
abbrev law_rest1_w11 (words1 : (List Txt)) (counts3 : CountsV) (word5 : Txt) (many50 : Int) (runs52 : (List Txt)) (marks57 : (List (T3 Int Int Txt))) (Q : Bool → Prop) : Prop :=
  (Cl (law_unlike_W (words1, ())) (fun (r58 : (List Txt)) => (forW r58 marks57 (fun (x59 : Txt) (z60 : (List (T3 Int Int Txt))) (nx62 : (List (T3 Int Int Txt)) → Prop) => (law_rest1_w5 word5 many50 runs52 x59 nx62 z60 Q)) (fun (z72 : (List (T3 Int Int Txt))) => (law_rest1_w10 words1 counts3 word5 many50 z72 Q)))) NoE)
abbrev law_rest1_w12 (words1 : (List Txt)) (counts3 : CountsV) (word5 : Txt) (many50 : Int) (runs52 : (List Txt)) (Q : Bool → Prop) : Prop :=
  (law_rest1_w11 words1 counts3 word5 many50 runs52 ([] : List (T3 Int Int Txt)) Q)
abbrev law_rest1_w13 (words1 : (List Txt)) (counts3 : CountsV) (word5 : Txt) (many50 : Int) (runs52 : (List Txt)) (Q : Bool → Prop) : Prop :=
  (Cl (runs_in_W (word5, many50, ())) (fun (r53 : (TupN (Txt × Int))) => (Cl (law_unlike_W (runs52, ())) (fun (r54 : (List Txt)) => (r54.length ≤ sizeLine ∧ (∀ x55 ∈ r54, (x55, (cnt runs52 x55 : Int)) = (x55, (cnt runs52 x55 : Int))) ∧ (((decide (r53.tup.items ≠ (r54.map (fun (x55 : Txt) => (x55, (cnt runs52 x55 : Int)))))) = true → Q false) ∧ ((decide (r53.tup.items ≠ (r54.map (fun (x55 : Txt) => (x55, (cnt runs52 x55 : Int)))))) = false → (law_rest1_w12 words1 counts3 word5 many50 runs52 Q))))) NoE)) NoE)
abbrev law_rest1_w14 (words1 : (List Txt)) (counts3 : CountsV) (word5 : Txt) (many50 : Int) (Q : Bool → Prop) : Prop :=
  (word5.length ≤ sizeLine ∧ ((-(2 ^ 62) ≤ (((word5.length : Int) - many50) + (1 : Int)) ∧ (((word5.length : Int) - many50) + (1 : Int)) < 2 ^ 62) ∧ (List.length ((List.range ((((word5.length : Int) - many50) + (1 : Int))).toNat).map fun i : Nat => (i : Int)) ≤ sizeLine ∧ (∀ x51 ∈ ((List.range ((((word5.length : Int) - many50) + (1 : Int))).toNat).map fun i : Nat => (i : Int)), (word5.length ≤ sizeLine ∧ (cutD word5 (some x51) (some (x51 + many50))) = (cutD word5 (some x51) (some (x51 + many50))))) ∧ (law_rest1_w13 words1 counts3 word5 many50 (((List.range ((((word5.length : Int) - many50) + (1 : Int))).toNat).map fun i : Nat => (i : Int)).map (fun (x51 : Int) => (cutD word5 (some x51) (some (x51 + many50))))) Q))))
abbrev law_rest1_w15 (words1 : (List Txt)) (counts3 : CountsV) (word5 : Txt) (Q : Bool → Prop) : Prop :=
  (ClD (rollW ((2 : Int), ())) fun (r49 : Int) => (law_rest1_w14 words1 counts3 word5 ((1 : Int) + r49) Q))
abbrev law_rest1_w16 (words1 : (List Txt)) (size2 : Int) (counts3 : CountsV) (word5 : Txt) (mine6 : (List (Txt × Txt))) (more40 : CountsV) (Q : Bool → Prop) : Prop :=
  (mine6.length ≤ sizeLine ∧ ∃ h43 : (Txt × Txt) → (Int × Int), (∀ x41 ∈ mine6, (Cl (Counts_share_W (more40, x41.1, x41.2, ())) (fun (r42 : (Int × Int)) => r42 = h43 x41) NoE)) ∧ (mine6.length ≤ sizeLine ∧ ∃ h47 : (Txt × Txt) → (Int × Int), (∀ x44 ∈ mine6, (words1.length + List.length [word5] ≤ sizeLine ∧ (Cl (Counts_init_W ((words1 ++ [word5]), size2, ())) (fun (r45 : CountsV) => (Cl (Counts_share_W (r45, x44.1, x44.2, ())) (fun (r46 : (Int × Int)) => r46 = h47 x44) NoE)) NoE))) ∧ (((decide ((mine6.map h43) ≠ (mine6.map h47))) = true → Q false) ∧ ((decide ((mine6.map h43) ≠ (mine6.map h47))) = false → (law_rest1_w15 words1 counts3 word5 Q)))))
abbrev law_rest1_w17 (words1 : (List Txt)) (size2 : Int) (counts3 : CountsV) (word5 : Txt) (mine6 : (List (Txt × Txt))) (Q : Bool → Prop) : Prop :=
  (Cl (Counts_init_W ([word5], size2, ())) (fun (r39 : CountsV) => (Cl (Counts_both_W (counts3, r39, ())) (fun (r38 : CountsV) => (law_rest1_w16 words1 size2 counts3 word5 mine6 r38 Q)) NoE)) NoE)
abbrev law_rest1_w18 (words1 : (List Txt)) (size2 : Int) (counts3 : CountsV) (steps4 : (List (Txt × Txt))) (word5 : Txt) (mine6 : (List (Txt × Txt))) (length17 : Int) (rows30 : (List Txt)) (Q : Bool → Prop) : Prop :=
  (Cl (Counts_all_made_W (counts3, length17, ())) (fun (r31 : (Tup Txt)) => (rows30.length ≤ sizeLine ∧ ∃ (c35 : Txt → Bool) (h36 : Txt → Txt), (∀ x32 ∈ rows30, (Cl (law_steps_W (x32, size2, ())) (fun (r33 : (List (Txt × Txt))) => (r33.length ≤ sizeLine ∧ (∀ x34 ∈ r33, ((niL x34 steps4)) = ((niL x34 steps4))) ∧ (∀ x34 ∈ r33, ((niL x34 steps4)) = true → x34 = x34) ∧ (decide (((r33.filter (fun (x34 : (Txt × Txt)) => ((niL x34 steps4)))).map (fun (x34 : (Txt × Txt)) => x34)) = ([] : List (Txt × Txt)))) = c35 x32)) NoE)) ∧ (∀ x32 ∈ rows30, c35 x32 = true → x32 = h36 x32) ∧ (((decide (r31.items ≠ ((rows30.filter c35).map h36))) = true → Q false) ∧ ((decide (r31.items ≠ ((rows30.filter c35).map h36))) = false → (law_rest1_w17 words1 size2 counts3 word5 mine6 Q))))) NoE)
abbrev law_rest1_w19 (words1 : (List Txt)) (size2 : Int) (counts3 : CountsV) (steps4 : (List (Txt × Txt))) (word5 : Txt) (mine6 : (List (Txt × Txt))) (length17 : Int) (rows18 : (List Txt)) (Q : Bool → Prop) : Prop :=
  ((-(2 ^ 62) ≤ length17 ∧ length17 < 2 ^ 62) ∧ (forW ((List.range (length17).toNat).map fun i : Nat => (i : Int)) rows18 (fun (x19 : Int) (z20 : (List Txt)) (nx22 : (List Txt) → Prop) => (law_rest1_w1 nx22 z20)) (fun (z28 : (List Txt)) => (law_rest1_w18 words1 size2 counts3 steps4 word5 mine6 length17 z28 Q))))
abbrev law_rest1_w20 (words1 : (List Txt)) (size2 : Int) (counts3 : CountsV) (steps4 : (List (Txt × Txt))) (word5 : Txt) (mine6 : (List (Txt × Txt))) (length17 : Int) (Q : Bool → Prop) : Prop :=
  (law_rest1_w19 words1 size2 counts3 steps4 word5 mine6 length17 [(tx "")] Q)
abbrev law_rest1_w21 (words1 : (List Txt)) (size2 : Int) (counts3 : CountsV) (steps4 : (List (Txt × Txt))) (word5 : Txt) (mine6 : (List (Txt × Txt))) (Q : Bool → Prop) : Prop :=
  (ClD (rollW ((4 : Int), ())) fun (r16 : Int) => (law_rest1_w20 words1 size2 counts3 steps4 word5 mine6 r16 Q))
abbrev law_rest1_w22 (words1 : (List Txt)) (size2 : Int) (counts3 : CountsV) (steps4 : (List (Txt × Txt))) (word5 : Txt) (mine6 : (List (Txt × Txt))) (shares7 : (List (Int × Int))) (worst11 : (List Int)) (Q : Bool → Prop) : Prop :=
  (Cl (Counts_strangest_W (counts3, word5, ())) (fun (r12 : Int) => (inR (worst11.length) (0 : Int) ∧ (((decide (r12 ≠ (ixD worst11 (0 : Int)))) = true → ((true = true → Q false) ∧ (true = false → (law_rest1_w21 words1 size2 counts3 steps4 word5 mine6 Q)))) ∧ ((decide (r12 ≠ (ixD worst11 (0 : Int)))) = false → (Cl (Counts_unseen_W (counts3, word5, ())) (fun (r13 : (Tup Int)) => ((-(2 ^ 62) ≤ (shares7.length : Int) ∧ (shares7.length : Int) < 2 ^ 62) ∧ (List.length ((List.range ((shares7.length : Int)).toNat).map fun i : Nat => (i : Int)) ≤ sizeLine ∧ (∀ x14 ∈ ((List.range ((shares7.length : Int)).toNat).map fun i : Nat => (i : Int)), (inR (shares7.length) x14 ∧ (decide ((ixD shares7 x14).1 = (0 : Int))) = (decide ((ixD shares7 x14).1 = (0 : Int))))) ∧ (∀ x14 ∈ ((List.range ((shares7.length : Int)).toNat).map fun i : Nat => (i : Int)), (decide ((ixD shares7 x14).1 = (0 : Int))) = true → x14 = x14) ∧ (((decide (r13.items ≠ ((((List.range ((shares7.length : Int)).toNat).map fun i : Nat => (i : Int)).filter (fun (x14 : Int) => (decide ((ixD shares7 x14).1 = (0 : Int))))).map (fun (x14 : Int) => x14)))) = true → Q false) ∧ ((decide (r13.items ≠ ((((List.range ((shares7.length : Int)).toNat).map fun i : Nat => (i : Int)).filter (fun (x14 : Int) => (decide ((ixD shares7 x14).1 = (0 : Int))))).map (fun (x14 : Int) => x14)))) = false → (law_rest1_w21 words1 size2 counts3 steps4 word5 mine6 Q)))))) NoE))))) NoE)
abbrev law_rest1_w (words1 : (List Txt)) (size2 : Int) (counts3 : CountsV) (steps4 : (List (Txt × Txt))) (word5 : Txt) (mine6 : (List (Txt × Txt))) (shares7 : (List (Int × Int))) (smooth8 : (List (Int × Int))) (Q : Bool → Prop) (E : Ex → Prop) : Prop :=
  ((-(2 ^ 62) ≤ (smooth8.length : Int) ∧ (smooth8.length : Int) < 2 ^ 62) ∧ (List.length ((List.range ((smooth8.length : Int)).toNat).map fun i : Nat => (i : Int)) ≤ sizeLine ∧ (∀ x9 ∈ ((List.range ((smooth8.length : Int)).toNat).map fun i : Nat => (i : Int)), (smooth8.length ≤ sizeLine ∧ (∀ x10 ∈ smooth8, (inR (smooth8.length) x9 ∧ (CMul x10.1 (ixD smooth8 x9).2 ∧ (inR (smooth8.length) x9 ∧ (CMul (ixD smooth8 x9).1 x10.2 ∧ (decide ((x10.1 * (ixD smooth8 x9).2) < ((ixD smooth8 x9).1 * x10.2))) = (decide ((x10.1 * (ixD smooth8 x9).2) < ((ixD smooth8 x9).1 * x10.2)))))))) ∧ (∀ x10 ∈ smooth8, (decide ((x10.1 * (ixD smooth8 x9).2) < ((ixD smooth8 x9).1 * x10.2))) = true → x10 = x10) ∧ (decide (((smooth8.filter (fun (x10 : (Int × Int)) => (decide ((x10.1 * (ixD smooth8 x9).2) < ((ixD smooth8 x9).1 * x10.2))))).map (fun (x10 : (Int × Int)) => x10)) = ([] : List (Int × Int)))) = (decide (((smooth8.filter (fun (x10 : (Int × Int)) => (decide ((x10.1 * (ixD smooth8 x9).2) < ((ixD smooth8 x9).1 * x10.2))))).map (fun (x10 : (Int × Int)) => x10)) = ([] : List (Int × Int)))))) ∧ (∀ x9 ∈ ((List.range ((smooth8.length : Int)).toNat).map fun i : Nat => (i : Int)), (decide (((smooth8.filter (fun (x10 : (Int × Int)) => (decide ((x10.1 * (ixD smooth8 x9).2) < ((ixD smooth8 x9).1 * x10.2))))).map (fun (x10 : (Int × Int)) => x10)) = ([] : List (Int × Int)))) = true → x9 = x9) ∧ (law_rest1_w22 words1 size2 counts3 steps4 word5 mine6 shares7 ((((List.range ((smooth8.length : Int)).toNat).map fun i : Nat => (i : Int)).filter (fun (x9 : Int) => (decide (((smooth8.filter (fun (x10 : (Int × Int)) => (decide ((x10.1 * (ixD smooth8 x9).2) < ((ixD smooth8 x9).1 * x10.2))))).map (fun (x10 : (Int × Int)) => x10)) = ([] : List (Int × Int)))))).map (fun (x9 : Int) => x9)) Q)))
abbrev law_rest1_W (t : (List Txt) × Int × CountsV × (List (Txt × Txt)) × Txt × (List (Txt × Txt)) × (List (Int × Int)) × (List (Int × Int)) × Unit) (Q : Bool → Prop) (E : Ex → Prop) : Prop := law_rest1_w t.1 t.2.1 t.2.2.1 t.2.2.2.1 t.2.2.2.2.1 t.2.2.2.2.2.1 t.2.2.2.2.2.2.1 t.2.2.2.2.2.2.2.1 Q E
abbrev law_rest2_w1 (nx24 : (Txt × (List Txt) × Txt × Txt → Prop)) (made27 : Txt) (run29 : Txt) (signs31 : (List Txt)) (best33 : Txt) (told38 : Txt) : Prop :=
  (made27.length + best33.length ≤ sizeLine ∧ nx24 (run29, signs31, (made27 ++ best33), told38))
abbrev law_rest2_w2 (nx24 : (Txt × (List Txt) × Txt × Txt → Prop)) (made27 : Txt) (told28 : Txt) (run29 : Txt) (signs31 : (List Txt)) (best33 : Txt) : Prop :=
  (((decide (told28 = (tx "no way"))) = true → (decide (best33 = (tx "."))) = (decide (best33 = (tx ".")))) ∧ (ifJ ((decide (told28 = (tx "no way"))) && (decide (best33 = (tx ".")))) (fun (nx36 : Txt → Prop) => nx36 made27) (fun (nx36 : Txt → Prop) => nx36 told28) (fun (z34 : Txt) => (law_rest2_w1 nx24 made27 run29 signs31 best33 z34))))
abbrev law_rest2_w3 (nx24 : (Txt × (List Txt) × Txt × Txt → Prop)) (made27 : Txt) (told28 : Txt) (run29 : Txt) (signs31 : (List Txt)) : Prop :=
  (signs31.length ≤ sizeLine ∧ (∀ x32 ∈ signs31, (((0 : Int) - (cnt signs31 x32 : Int)), x32) = (((0 : Int) - (cnt signs31 x32 : Int)), x32)) ∧ (List.length (signs31.map (fun (x32 : Txt) => (((0 : Int) - (cnt signs31 x32 : Int)), x32))) + List.length [((1 : Int), (tx "?"))] ≤ sizeLine ∧ (((signs31.map (fun (x32 : Txt) => (((0 : Int) - (cnt signs31 x32 : Int)), x32))) ++ [((1 : Int), (tx "?"))]) ≠ [] ∧ (law_rest2_w2 nx24 made27 told28 run29 signs31 (minL ((signs31.map (fun (x32 : Txt) => (((0 : Int) - (cnt signs31 x32 : Int)), x32))) ++ [((1 : Int), (tx "?"))])).2))))
abbrev law_rest2_w4 (steps4 : (List (Txt × Txt))) (nx24 : (Txt × (List Txt) × Txt × Txt → Prop)) (made27 : Txt) (told28 : Txt) (run29 : Txt) : Prop :=
  (steps4.length ≤ sizeLine ∧ (∀ x30 ∈ steps4, (decide (x30.1 = run29)) = (decide (x30.1 = run29))) ∧ (∀ x30 ∈ steps4, (decide (x30.1 = run29)) = true → x30.2 = x30.2) ∧ (law_rest2_w3 nx24 made27 told28 run29 ((steps4.filter (fun (x30 : (Txt × Txt)) => (decide (x30.1 = run29)))).map (fun (x30 : (Txt × Txt)) => x30.2))))
abbrev law_rest2_w5 (size2 : Int) (steps4 : (List (Txt × Txt))) (nx24 : (Txt × (List Txt) × Txt × Txt → Prop)) (made27 : Txt) (told28 : Txt) : Prop :=
  (((decide ((1 : Int) < size2)) = true → ((-(2 ^ 63) ≤ size2 ∧ List.length (tx ".") * (size2).toNat ≤ 16777216 ∧ size2 ≤ 16777216) ∧ (List.length (repS (tx ".") size2) + made27.length ≤ sizeLine ∧ (made27.length ≤ sizeLine ∧ (List.length ((repS (tx ".") size2) ++ made27) ≤ sizeLine ∧ (cutD ((repS (tx ".") size2) ++ made27) (some ((made27.length : Int) + (1 : Int))) none) = (cutD ((repS (tx ".") size2) ++ made27) (some ((made27.length : Int) + (1 : Int))) none)))))) ∧ ((decide ((1 : Int) < size2)) = false → (tx "") = (tx "")) ∧ (law_rest2_w4 steps4 nx24 made27 told28 (if (decide ((1 : Int) < size2)) = true then (cutD ((repS (tx ".") size2) ++ made27) (some ((made27.length : Int) + (1 : Int))) none) else (tx ""))))
abbrev law_rest2_w6 (words1 : (List Txt)) (size2 : Int) (counts3 : CountsV) (steps4 : (List (Txt × Txt))) (word5 : Txt) (mine6 : (List (Txt × Txt))) (shares7 : (List (Int × Int))) (smooth8 : (List (Int × Int))) (Q : Bool → Prop) : Prop :=
  (ClD (law_rest1_W (words1, size2, counts3, steps4, word5, mine6, shares7, smooth8, ())) fun (r49 : Bool) => (((!r49) = true → Q false) ∧ ((!r49) = false → Q true)))
abbrev law_rest2_w7 (words1 : (List Txt)) (size2 : Int) (counts3 : CountsV) (steps4 : (List (Txt × Txt))) (word5 : Txt) (mine6 : (List (Txt × Txt))) (shares7 : (List (Int × Int))) (smooth8 : (List (Int × Int))) (told45 : Txt) (Q : Bool → Prop) : Prop :=
  (Cl (Counts_likeliest_W (counts3, (6 : Int), ())) (fun (r46 : Txt) => (((decide (words1 ≠ ([] : List Txt))) = true → told45 = told45) ∧ ((decide (words1 ≠ ([] : List Txt))) = false → (tx "no way") = (tx "no way")) ∧ (((decide (r46 ≠ (if (decide (words1 ≠ ([] : List Txt))) = true then told45 else (tx "no way")))) = true → Q false) ∧ ((decide (r46 ≠ (if (decide (words1 ≠ ([] : List Txt))) = true then told45 else (tx "no way")))) = false → (law_rest2_w6 words1 size2 counts3 steps4 word5 mine6 shares7 smooth8 Q))))) (fun e => ∃ t47, toldT e = some t47 ∧ (((decide (words1 ≠ ([] : List Txt))) = true → told45 = told45) ∧ ((decide (words1 ≠ ([] : List Txt))) = false → (tx "no way") = (tx "no way")) ∧ (((decide (t47 ≠ (if (decide (words1 ≠ ([] : List Txt))) = true then told45 else (tx "no way")))) = true → Q false) ∧ ((decide (t47 ≠ (if (decide (words1 ≠ ([] : List Txt))) = true then told45 else (tx "no way")))) = false → (law_rest2_w6 words1 size2 counts3 steps4 word5 mine6 shares7 smooth8 Q))))))
abbrev law_rest2_w8 (words1 : (List Txt)) (size2 : Int) (counts3 : CountsV) (steps4 : (List (Txt × Txt))) (word5 : Txt) (mine6 : (List (Txt × Txt))) (shares7 : (List (Int × Int))) (smooth8 : (List (Int × Int))) (run11 : Txt) (signs13 : (List Txt)) (u20 : (Txt × Txt)) (Q : Bool → Prop) : Prop :=
  ((-(2 ^ 62) ≤ (7 : Int) ∧ (7 : Int) < 2 ^ 62) ∧ (forW ((List.range ((7 : Int)).toNat).map fun i : Nat => (i : Int)) (run11, signs13, u20.1, u20.2) (fun (x21 : Int) (z22 : Txt × (List Txt) × Txt × Txt) (nx24 : Txt × (List Txt) × Txt × Txt → Prop) => (law_rest2_w5 size2 steps4 nx24 z22.2.2.1 z22.2.2.2)) (fun (z40 : Txt × (List Txt) × Txt × Txt) => (law_rest2_w7 words1 size2 counts3 steps4 word5 mine6 shares7 smooth8 z40.2.2.2 Q))))
abbrev law_rest2_w9 (words1 : (List Txt)) (size2 : Int) (counts3 : CountsV) (steps4 : (List (Txt × Txt))) (word5 : Txt) (mine6 : (List (Txt × Txt))) (shares7 : (List (Int × Int))) (smooth8 : (List (Int × Int))) (run11 : Txt) (signs13 : (List Txt)) (Q : Bool → Prop) : Prop :=
  (law_rest2_w8 words1 size2 counts3 steps4 word5 mine6 shares7 smooth8 run11 signs13 ((tx ""), (tx "no way")) Q)
abbrev law_rest2_w10 (words1 : (List Txt)) (size2 : Int) (counts3 : CountsV) (steps4 : (List (Txt × Txt))) (word5 : Txt) (mine6 : (List (Txt × Txt))) (shares7 : (List (Int × Int))) (smooth8 : (List (Int × Int))) (start10 : Txt) (run11 : Txt) (signs13 : (List Txt)) (due16 : (List (Int × Txt))) (Q : Bool → Prop) : Prop :=
  (Cl (Counts_next_letters_W (counts3, start10, ())) (fun (r17 : (Tup (Txt × Int))) => (due16.length ≤ sizeLine ∧ (∀ x18 ∈ due16, (x18.2, ((0 : Int) - x18.1)) = (x18.2, ((0 : Int) - x18.1))) ∧ (((decide (r17.items ≠ (due16.map (fun (x18 : (Int × Txt)) => (x18.2, ((0 : Int) - x18.1)))))) = true → Q false) ∧ ((decide (r17.items ≠ (due16.map (fun (x18 : (Int × Txt)) => (x18.2, ((0 : Int) - x18.1)))))) = false → (law_rest2_w9 words1 size2 counts3 steps4 word5 mine6 shares7 smooth8 run11 signs13 Q))))) NoE)
abbrev law_rest2_w11 (words1 : (List Txt)) (size2 : Int) (counts3 : CountsV) (steps4 : (List (Txt × Txt))) (word5 : Txt) (mine6 : (List (Txt × Txt))) (shares7 : (List (Int × Int))) (smooth8 : (List (Int × Int))) (start10 : Txt) (run11 : Txt) (signs13 : (List Txt)) (Q : Bool → Prop) : Prop :=
  (Cl (law_unlike_W (signs13, ())) (fun (r14 : (List Txt)) => (r14.length ≤ sizeLine ∧ (∀ x15 ∈ r14, (((0 : Int) - (cnt signs13 x15 : Int)), x15) = (((0 : Int) - (cnt signs13 x15 : Int)), x15)) ∧ (law_rest2_w10 words1 size2 counts3 steps4 word5 mine6 shares7 smooth8 start10 run11 signs13 (srt (r14.map (fun (x15 : Txt) => (((0 : Int) - (cnt signs13 x15 : Int)), x15)))) Q))) NoE)
abbrev law_rest2_w12 (words1 : (List Txt)) (size2 : Int) (counts3 : CountsV) (steps4 : (List (Txt × Txt))) (word5 : Txt) (mine6 : (List (Txt × Txt))) (shares7 : (List (Int × Int))) (smooth8 : (List (Int × Int))) (start10 : Txt) (run11 : Txt) (Q : Bool → Prop) : Prop :=
  (steps4.length ≤ sizeLine ∧ (∀ x12 ∈ steps4, (decide (x12.1 = run11)) = (decide (x12.1 = run11))) ∧ (∀ x12 ∈ steps4, (decide (x12.1 = run11)) = true → x12.2 = x12.2) ∧ (law_rest2_w11 words1 size2 counts3 steps4 word5 mine6 shares7 smooth8 start10 run11 ((steps4.filter (fun (x12 : (Txt × Txt)) => (decide (x12.1 = run11)))).map (fun (x12 : (Txt × Txt)) => x12.2)) Q))
abbrev law_rest2_w13 (words1 : (List Txt)) (size2 : Int) (counts3 : CountsV) (steps4 : (List (Txt × Txt))) (word5 : Txt) (mine6 : (List (Txt × Txt))) (shares7 : (List (Int × Int))) (smooth8 : (List (Int × Int))) (start10 : Txt) (Q : Bool → Prop) : Prop :=
  (((decide ((1 : Int) < size2)) = true → ((-(2 ^ 63) ≤ size2 ∧ List.length (tx ".") * (size2).toNat ≤ 16777216 ∧ size2 ≤ 16777216) ∧ (List.length (repS (tx ".") size2) + start10.length ≤ sizeLine ∧ (start10.length ≤ sizeLine ∧ (List.length ((repS (tx ".") size2) ++ start10) ≤ sizeLine ∧ (cutD ((repS (tx ".") size2) ++ start10) (some ((start10.length : Int) + (1 : Int))) none) = (cutD ((repS (tx ".") size2) ++ start10) (some ((start10.length : Int) + (1 : Int))) none)))))) ∧ ((decide ((1 : Int) < size2)) = false → (tx "") = (tx "")) ∧ (law_rest2_w12 words1 size2 counts3 steps4 word5 mine6 shares7 smooth8 start10 (if (decide ((1 : Int) < size2)) = true then (cutD ((repS (tx ".") size2) ++ start10) (some ((start10.length : Int) + (1 : Int))) none) else (tx "")) Q))
abbrev law_rest2_w (words1 : (List Txt)) (size2 : Int) (counts3 : CountsV) (steps4 : (List (Txt × Txt))) (word5 : Txt) (mine6 : (List (Txt × Txt))) (shares7 : (List (Int × Int))) (smooth8 : (List (Int × Int))) (Q : Bool → Prop) (E : Ex → Prop) : Prop :=
  (ClD (law_word_W ((tx "abc"), (0 : Int), (3 : Int), ())) fun (r9 : Txt) => (law_rest2_w13 words1 size2 counts3 steps4 word5 mine6 shares7 smooth8 r9 Q))
abbrev law_rest2_W (t : (List Txt) × Int × CountsV × (List (Txt × Txt)) × Txt × (List (Txt × Txt)) × (List (Int × Int)) × (List (Int × Int)) × Unit) (Q : Bool → Prop) (E : Ex → Prop) : Prop := law_rest2_w t.1 t.2.1 t.2.2.1 t.2.2.2.1 t.2.2.2.2.1 t.2.2.2.2.2.1 t.2.2.2.2.2.2.1 t.2.2.2.2.2.2.2.1 Q E
abbrev law_w1 (u9 : ((List Txt) × Int)) (u15 : (CountsV × (List (Txt × Txt)))) (word18 : Txt) (mine21 : (List (Txt × Txt))) (shares26 : (List (Int × Int))) (smooth32 : (List (Int × Int))) (Q : Bool → Prop) : Prop :=
  (ClD (law_rest2_W (u9.1, u9.2, u15.1, u15.2, word18, mine21, shares26, smooth32, ())) fun (r55 : Bool) => (((!r55) = true → Q false) ∧ ((!r55) = false → Q true)))
abbrev law_w2 (u9 : ((List Txt) × Int)) (u15 : (CountsV × (List (Txt × Txt)))) (word18 : Txt) (other19 : Txt) (mine21 : (List (Txt × Txt))) (shares26 : (List (Int × Int))) (smooth32 : (List (Int × Int))) (first44 : (Int × Int)) (second52 : (Int × Int)) (Q : Bool → Prop) (E : Ex → Prop) : Prop :=
  (Cl (Counts_likelier_W (u15.1, word18, other19, ())) (fun (r53 : Txt) => (CMul second52.1 first44.2 ∧ (CMul first44.1 second52.2 ∧ (((decide ((first44.1 * second52.2) < (second52.1 * first44.2))) = true → other19 = other19) ∧ ((decide ((first44.1 * second52.2) < (second52.1 * first44.2))) = false → word18 = word18) ∧ (((decide (r53 ≠ (if (decide ((first44.1 * second52.2) < (second52.1 * first44.2))) = true then other19 else word18))) = true → Q false) ∧ ((decide (r53 ≠ (if (decide ((first44.1 * second52.2) < (second52.1 * first44.2))) = true then other19 else word18))) = false → (law_w1 u9 u15 word18 mine21 shares26 smooth32 Q))))))) E)
abbrev law_w3 (u9 : ((List Txt) × Int)) (u15 : (CountsV × (List (Txt × Txt)))) (word18 : Txt) (other19 : Txt) (mine21 : (List (Txt × Txt))) (shares26 : (List (Int × Int))) (smooth32 : (List (Int × Int))) (first44 : (Int × Int)) (Q : Bool → Prop) (E : Ex → Prop) : Prop :=
  (Cl (law_steps_W (other19, u9.2, ())) (fun (r48 : (List (Txt × Txt))) => (r48.length ≤ sizeLine ∧ (∀ x49 ∈ r48, (u15.2.length ≤ sizeLine ∧ (∀ x50 ∈ u15.2, (decide (x50.1 = x49.1)) = (decide (x50.1 = x49.1))) ∧ (∀ x50 ∈ u15.2, (decide (x50.1 = x49.1)) = true → x50 = x50) ∧ (((cnt u15.2 x49 : Int) + (1 : Int)), ((List.length ((u15.2.filter (fun (x50 : (Txt × Txt)) => (decide (x50.1 = x49.1)))).map (fun (x50 : (Txt × Txt)) => x50)) : Int) + (27 : Int))) = (((cnt u15.2 x49 : Int) + (1 : Int)), ((List.length ((u15.2.filter (fun (x50 : (Txt × Txt)) => (decide (x50.1 = x49.1)))).map (fun (x50 : (Txt × Txt)) => x50)) : Int) + (27 : Int))))) ∧ (Cl (law_product_W ((r48.map (fun (x49 : (Txt × Txt)) => (((cnt u15.2 x49 : Int) + (1 : Int)), ((List.length ((u15.2.filter (fun (x50 : (Txt × Txt)) => (decide (x50.1 = x49.1)))).map (fun (x50 : (Txt × Txt)) => x50)) : Int) + (27 : Int))))), ())) (fun (r51 : (Int × Int)) => (law_w2 u9 u15 word18 other19 mine21 shares26 smooth32 first44 r51 Q E)) E))) E)
abbrev law_w4 (u9 : ((List Txt) × Int)) (u15 : (CountsV × (List (Txt × Txt)))) (word18 : Txt) (other19 : Txt) (mine21 : (List (Txt × Txt))) (shares26 : (List (Int × Int))) (smooth32 : (List (Int × Int))) (first44 : (Int × Int)) (Q : Bool → Prop) (E : Ex → Prop) : Prop :=
  (Cl (Counts_smooth_chance_W (u15.1, word18, ())) (fun (r45 : (Int × Int)) => (Cl (law_same_W (r45, first44.1, first44.2, ())) (fun (r46 : Bool) => (((!r46) = true → Q false) ∧ ((!r46) = false → (law_w3 u9 u15 word18 other19 mine21 shares26 smooth32 first44 Q E)))) E)) E)
abbrev law_w5 (u9 : ((List Txt) × Int)) (u15 : (CountsV × (List (Txt × Txt)))) (word18 : Txt) (other19 : Txt) (mine21 : (List (Txt × Txt))) (shares26 : (List (Int × Int))) (smooth32 : (List (Int × Int))) (Q : Bool → Prop) (E : Ex → Prop) : Prop :=
  (Cl (law_product_W (smooth32, ())) (fun (r43 : (Int × Int)) => (law_w4 u9 u15 word18 other19 mine21 shares26 smooth32 r43 Q E)) E)
abbrev law_w6 (u9 : ((List Txt) × Int)) (u15 : (CountsV × (List (Txt × Txt)))) (word18 : Txt) (other19 : Txt) (mine21 : (List (Txt × Txt))) (shares26 : (List (Int × Int))) (smooth32 : (List (Int × Int))) (u38 : (Int × Int)) (Q : Bool → Prop) (E : Ex → Prop) : Prop :=
  ((((decide (u38.1 = (0 : Int)))) = true → (Cl (Counts_chance_W (u15.1, word18, ())) (fun (r39 : (Int × Int)) => (((!(decide (r39 = ((0 : Int), (1 : Int))))) = true → Q false) ∧ ((!(decide (r39 = ((0 : Int), (1 : Int))))) = false → (law_w5 u9 u15 word18 other19 mine21 shares26 smooth32 Q E)))) E)) ∧ (((decide (u38.1 = (0 : Int)))) = false → (Cl (Counts_chance_W (u15.1, word18, ())) (fun (r40 : (Int × Int)) => (Cl (law_same_W (r40, u38.1, u38.2, ())) (fun (r41 : Bool) => (((!r41) = true → Q false) ∧ ((!r41) = false → (law_w5 u9 u15 word18 other19 mine21 shares26 smooth32 Q E)))) E)) E)))
abbrev law_w7 (u9 : ((List Txt) × Int)) (u15 : (CountsV × (List (Txt × Txt)))) (word18 : Txt) (other19 : Txt) (mine21 : (List (Txt × Txt))) (shares26 : (List (Int × Int))) (smooth32 : (List (Int × Int))) (Q : Bool → Prop) (E : Ex → Prop) : Prop :=
  (Cl (law_product_W (shares26, ())) (fun (r37 : (Int × Int)) => (law_w6 u9 u15 word18 other19 mine21 shares26 smooth32 r37 Q E)) E)
abbrev law_w8 (u9 : ((List Txt) × Int)) (u15 : (CountsV × (List (Txt × Txt)))) (word18 : Txt) (other19 : Txt) (mine21 : (List (Txt × Txt))) (shares26 : (List (Int × Int))) (smooth32 : (List (Int × Int))) (Q : Bool → Prop) (E : Ex → Prop) : Prop :=
  (mine21.length ≤ sizeLine ∧ ∃ h35 : (Txt × Txt) → (Int × Int), (∀ x33 ∈ mine21, (Cl (Counts_smooth_W (u15.1, x33.1, x33.2, ())) (fun (r34 : (Int × Int)) => r34 = h35 x33) NoE)) ∧ (((decide ((mine21.map h35) ≠ smooth32)) = true → Q false) ∧ ((decide ((mine21.map h35) ≠ smooth32)) = false → (law_w7 u9 u15 word18 other19 mine21 shares26 smooth32 Q E))))
abbrev law_w9 (u9 : ((List Txt) × Int)) (u15 : (CountsV × (List (Txt × Txt)))) (word18 : Txt) (other19 : Txt) (mine21 : (List (Txt × Txt))) (shares26 : (List (Int × Int))) (Q : Bool → Prop) (E : Ex → Prop) : Prop :=
  (shares26.length ≤ sizeLine ∧ (∀ x31 ∈ shares26, ((x31.1 + (1 : Int)), (x31.2 + (27 : Int))) = ((x31.1 + (1 : Int)), (x31.2 + (27 : Int)))) ∧ (law_w8 u9 u15 word18 other19 mine21 shares26 (shares26.map (fun (x31 : (Int × Int)) => ((x31.1 + (1 : Int)), (x31.2 + (27 : Int))))) Q E))
abbrev law_w10 (u9 : ((List Txt) × Int)) (u15 : (CountsV × (List (Txt × Txt)))) (word18 : Txt) (other19 : Txt) (mine21 : (List (Txt × Txt))) (shares26 : (List (Int × Int))) (Q : Bool → Prop) (E : Ex → Prop) : Prop :=
  (mine21.length ≤ sizeLine ∧ ∃ h29 : (Txt × Txt) → (Int × Int), (∀ x27 ∈ mine21, (Cl (Counts_share_W (u15.1, x27.1, x27.2, ())) (fun (r28 : (Int × Int)) => r28 = h29 x27) NoE)) ∧ (((decide ((mine21.map h29) ≠ shares26)) = true → Q false) ∧ ((decide ((mine21.map h29) ≠ shares26)) = false → (law_w9 u9 u15 word18 other19 mine21 shares26 Q E))))
abbrev law_w11 (u9 : ((List Txt) × Int)) (u15 : (CountsV × (List (Txt × Txt)))) (word18 : Txt) (other19 : Txt) (mine21 : (List (Txt × Txt))) (Q : Bool → Prop) (E : Ex → Prop) : Prop :=
  (mine21.length ≤ sizeLine ∧ (∀ x24 ∈ mine21, (u15.2.length ≤ sizeLine ∧ (∀ x25 ∈ u15.2, (decide (x25.1 = x24.1)) = (decide (x25.1 = x24.1))) ∧ (∀ x25 ∈ u15.2, (decide (x25.1 = x24.1)) = true → x25 = x25) ∧ ((cnt u15.2 x24 : Int), (List.length ((u15.2.filter (fun (x25 : (Txt × Txt)) => (decide (x25.1 = x24.1)))).map (fun (x25 : (Txt × Txt)) => x25)) : Int)) = ((cnt u15.2 x24 : Int), (List.length ((u15.2.filter (fun (x25 : (Txt × Txt)) => (decide (x25.1 = x24.1)))).map (fun (x25 : (Txt × Txt)) => x25)) : Int)))) ∧ (law_w10 u9 u15 word18 other19 mine21 (mine21.map (fun (x24 : (Txt × Txt)) => ((cnt u15.2 x24 : Int), (List.length ((u15.2.filter (fun (x25 : (Txt × Txt)) => (decide (x25.1 = x24.1)))).map (fun (x25 : (Txt × Txt)) => x25)) : Int)))) Q E))
abbrev law_w12 (u9 : ((List Txt) × Int)) (u15 : (CountsV × (List (Txt × Txt)))) (word18 : Txt) (other19 : Txt) (mine21 : (List (Txt × Txt))) (Q : Bool → Prop) (E : Ex → Prop) : Prop :=
  (Cl (Counts_steps_along_W (u15.1, word18, ())) (fun (r22 : (Tup (Txt × Txt))) => (((decide (r22.items ≠ mine21)) = true → Q false) ∧ ((decide (r22.items ≠ mine21)) = false → (law_w11 u9 u15 word18 other19 mine21 Q E)))) E)
abbrev law_w13 (u9 : ((List Txt) × Int)) (u15 : (CountsV × (List (Txt × Txt)))) (word18 : Txt) (other19 : Txt) (Q : Bool → Prop) (E : Ex → Prop) : Prop :=
  (Cl (law_steps_W (word18, u9.2, ())) (fun (r20 : (List (Txt × Txt))) => (law_w12 u9 u15 word18 other19 r20 Q E)) E)
abbrev law_w14 (u9 : ((List Txt) × Int)) (u15 : (CountsV × (List (Txt × Txt)))) (Q : Bool → Prop) (E : Ex → Prop) : Prop :=
  (ClD (law_word_W ((tx "abc"), (1 : Int), (4 : Int), ())) fun (r16 : Txt) => (ClD (law_word_W ((tx "abc"), (1 : Int), (4 : Int), ())) fun (r17 : Txt) => (law_w13 u9 u15 r16 r17 Q E)))
abbrev law_w15 (u9 : ((List Txt) × Int)) (Q : Bool → Prop) (E : Ex → Prop) : Prop :=
  (Cl (Counts_init_W (u9.1, u9.2, ())) (fun (r10 : CountsV) => (u9.1.length ≤ sizeLine ∧ ∃ h13 : Txt → (List (Txt × Txt)), (∀ x11 ∈ u9.1, (Cl (law_steps_W (x11, u9.2, ())) (fun (r12 : (List (Txt × Txt))) => r12 = h13 x11) NoE)) ∧ (Cl (law_flat_W ((u9.1.map h13), ())) (fun (r14 : (List (Txt × Txt))) => (law_w14 u9 (r10, r14) Q E)) E))) E)
abbrev law_w16 (Q : Bool → Prop) (E : Ex → Prop) : Prop :=
  (ClD (rollW ((8 : Int), ())) fun (r3 : Int) => ((-(2 ^ 62) ≤ r3 ∧ r3 < 2 ^ 62) ∧ (List.length ((List.range (r3).toNat).map fun i : Nat => (i : Int)) ≤ sizeLine ∧ ∃ P6 : Int → Txt → Prop, (∀ x4 ∈ ((List.range (r3).toNat).map fun i : Nat => (i : Int)), (ClD (law_word_W ((tx "abc"), (1 : Int), (4 : Int), ())) fun (r5 : Txt) => P6 x4 r5)) ∧ ∀ ys7, Each P6 ((List.range (r3).toNat).map fun i : Nat => (i : Int)) ys7 → (ClD (rollW ((3 : Int), ())) fun (r8 : Int) => (law_w15 (ys7, ((1 : Int) + r8)) Q E)))))
abbrev law_w (script1 : (List Int)) (Q : Bool → Prop) (E : Ex → Prop) : Prop :=
  (law_w16 Q E)
abbrev law_W (t : (List Int) × Unit) (Q : Bool → Prop) (E : Ex → Prop) : Prop := law_w t.1 Q E
end K08
set_option maxHeartbeats 0
set_option synthInstance.maxSize 2000
namespace K08
open PySem L2 Sp
abbrev top (i : Nat) : Stmt := PySem.Challenge.pw_spellhall_k08_grams.main.body.getD i (.Pass ⟨0, 0, 0, 0⟩)
def d_check_word : He.DefD := ⟨("check_word", none), "check_word", "check_word", defArgs (top 11), defBody (top 11), defScope (top 11), [], []⟩
def d_Counts_init : He.DefD := ⟨("Counts", some "__init__"), "__init__", "Counts.__init__", defArgs (inClass (top 14) 0), defBody (inClass (top 14) 0), defScope (inClass (top 14) 0), [], []⟩
def d_Counts_tell : He.DefD := ⟨("Counts", some "tell"), "tell", "Counts.tell", defArgs (inClass (top 14) 1), defBody (inClass (top 14) 1), defScope (inClass (top 14) 1), [], []⟩
def d_Counts_share : He.DefD := ⟨("Counts", some "share"), "share", "Counts.share", defArgs (inClass (top 14) 2), defBody (inClass (top 14) 2), defScope (inClass (top 14) 2), [], []⟩
def d_Counts_smooth : He.DefD := ⟨("Counts", some "smooth"), "smooth", "Counts.smooth", defArgs (inClass (top 14) 3), defBody (inClass (top 14) 3), defScope (inClass (top 14) 3), [], []⟩
def d_Counts_steps_along : He.DefD := ⟨("Counts", some "steps_along"), "steps_along", "Counts.steps_along", defArgs (inClass (top 14) 4), defBody (inClass (top 14) 4), defScope (inClass (top 14) 4), [], []⟩
def d_Counts_chance : He.DefD := ⟨("Counts", some "chance"), "chance", "Counts.chance", defArgs (inClass (top 14) 5), defBody (inClass (top 14) 5), defScope (inClass (top 14) 5), [], []⟩
def d_Counts_smooth_chance : He.DefD := ⟨("Counts", some "smooth_chance"), "smooth_chance", "Counts.smooth_chance", defArgs (inClass (top 14) 6), defBody (inClass (top 14) 6), defScope (inClass (top 14) 6), [], []⟩
def d_Counts_likelier : He.DefD := ⟨("Counts", some "likelier"), "likelier", "Counts.likelier", defArgs (inClass (top 14) 7), defBody (inClass (top 14) 7), defScope (inClass (top 14) 7), [], []⟩
def d_Counts_next_letters : He.DefD := ⟨("Counts", some "next_letters"), "next_letters", "Counts.next_letters", defArgs (inClass (top 14) 8), defBody (inClass (top 14) 8), defScope (inClass (top 14) 8), [], []⟩
def d_Counts_likeliest : He.DefD := ⟨("Counts", some "likeliest"), "likeliest", "Counts.likeliest", defArgs (inClass (top 14) 9), defBody (inClass (top 14) 9), defScope (inClass (top 14) 9), [], []⟩
def d_Counts_strangest : He.DefD := ⟨("Counts", some "strangest"), "strangest", "Counts.strangest", defArgs (inClass (top 14) 10), defBody (inClass (top 14) 10), defScope (inClass (top 14) 10), [], []⟩
def d_Counts_unseen : He.DefD := ⟨("Counts", some "unseen"), "unseen", "Counts.unseen", defArgs (inClass (top 14) 11), defBody (inClass (top 14) 11), defScope (inClass (top 14) 11), [], []⟩
def d_Counts_all_made : He.DefD := ⟨("Counts", some "all_made"), "all_made", "Counts.all_made", defArgs (inClass (top 14) 12), defBody (inClass (top 14) 12), defScope (inClass (top 14) 12), [], []⟩
def d_Counts_both : He.DefD := ⟨("Counts", some "both"), "both", "Counts.both", defArgs (inClass (top 14) 13), defBody (inClass (top 14) 13), defScope (inClass (top 14) 13), [], []⟩
def d_lowest : He.DefD := ⟨("lowest", none), "lowest", "lowest", defArgs (top 15), defBody (top 15), defScope (top 15), [], []⟩
def d_runs_in : He.DefD := ⟨("runs_in", none), "runs_in", "runs_in", defArgs (top 16), defBody (top 16), defScope (top 16), [], []⟩
def d_run_likeness : He.DefD := ⟨("run_likeness", none), "run_likeness", "run_likeness", defArgs (top 17), defBody (top 17), defScope (top 17), [], []⟩
def d_most_like : He.DefD := ⟨("most_like", none), "most_like", "most_like", defArgs (top 18), defBody (top 18), defScope (top 18), [], []⟩
def d__law_flat : He.DefD := ⟨("_law_flat", none), "_law_flat", "_law_flat", defArgs (top 20), defBody (top 20), defScope (top 20), [], []⟩
def d__law_dice : He.DefD := ⟨("_law_dice", none), "_law_dice", "_law_dice", defArgs (top 21), defBody (top 21), defScope (top 21), [], []⟩
def d__law_roll : He.DefD := ⟨("_law_roll", none), "_law_roll", "_law_roll", defArgs (top 22), defBody (top 22), defScope (top 22), [], []⟩
def d__law_rounds : He.DefD := ⟨("_law_rounds", none), "_law_rounds", "_law_rounds", defArgs (top 23), defBody (top 23), defScope (top 23), [], []⟩
def d__law_told : He.DefD := ⟨("_law_told", none), "_law_told", "_law_told", defArgs (top 24), defBody (top 24), defScope (top 24), [], []⟩
def d__law_word : He.DefD := ⟨("_law_word", none), "_law_word", "_law_word", defArgs (top 25), defBody (top 25), defScope (top 25), [], []⟩
def d__law_unlike : He.DefD := ⟨("_law_unlike", none), "_law_unlike", "_law_unlike", defArgs (top 26), defBody (top 26), defScope (top 26), [], []⟩
def d__law_steps : He.DefD := ⟨("_law_steps", none), "_law_steps", "_law_steps", defArgs (top 27), defBody (top 27), defScope (top 27), [], []⟩
def d__law_same : He.DefD := ⟨("_law_same", none), "_law_same", "_law_same", defArgs (top 28), defBody (top 28), defScope (top 28), [], []⟩
def d__law_product : He.DefD := ⟨("_law_product", none), "_law_product", "_law_product", defArgs (top 29), defBody (top 29), defScope (top 29), [], []⟩
def d__law_cases1 : He.DefD := ⟨("_law_cases1", none), "_law_cases1", "_law_cases1", defArgs (top 30), defBody (top 30), defScope (top 30), [], []⟩
def d__law_rest1 : He.DefD := ⟨("_law_rest1", none), "_law_rest1", "_law_rest1", defArgs (top 31), defBody (top 31), defScope (top 31), [], []⟩
def d__law_rest2 : He.DefD := ⟨("_law_rest2", none), "_law_rest2", "_law_rest2", defArgs (top 32), defBody (top 32), defScope (top 32), [], []⟩
def d_law : He.DefD := ⟨("law", none), "law", "law", defArgs (top 33), defBody (top 33), defScope (top 33), [], []⟩
def fn : List He.DefD := [d_check_word, d_Counts_init, d_Counts_tell, d_Counts_share, d_Counts_smooth, d_Counts_steps_along, d_Counts_chance, d_Counts_smooth_chance, d_Counts_likelier, d_Counts_next_letters, d_Counts_likeliest, d_Counts_strangest, d_Counts_unseen, d_Counts_all_made, d_Counts_both, d_lowest, d_runs_in, d_run_likeness, d_most_like, d__law_flat, d__law_dice, d__law_roll, d__law_rounds, d__law_told, d__law_word, d__law_unlike, d__law_steps, d__law_same, d__law_product, d__law_cases1, d__law_rest1, d__law_rest2, d_law]
def fa0 : List He.Fa := [.glo "check_word", .glo "lowest", .glo "runs_in", .glo "run_likeness", .glo "most_like", .glo "_law_flat", .glo "_law_dice", .glo "_law_roll", .glo "_law_rounds", .glo "_law_told", .glo "_law_word", .glo "_law_unlike", .glo "_law_steps", .glo "_law_same", .glo "_law_product", .glo "_law_cases1", .glo "_law_rest1", .glo "_law_rest2", .glo "law", .glo "Counts", .glo "SpellFault", .glo "BadWord", .glo "BadRule", .glo "BadCount", .glo "NoSuch", .glo "NoWay", .glo "TooLarge", .glo "BadText", .free "len", .free "range"]
def fa1 : List He.Fa := [.free "sorted", .free "list", .free "tuple", .free "dict", .free "int", .free "str", .free "abs", .free "min", .free "max", .free "sum", .free "any", .free "all", .free "enumerate", .free "zip", .free "reversed", .free "isinstance", .free "super", .str "LETTERS" "abcdefghijklmnopqrstuvwxyz", .str "EDGE" ".", .cls "Counts", .mkr "Counts", .noat "Counts" "size", .noat "Counts" "rows", .noat "Counts" "whole", .meth "Counts" "tell", .meth "Counts" "share", .meth "Counts" "smooth", .meth "Counts" "steps_along", .meth "Counts" "chance", .meth "Counts" "smooth_chance"]
def fa2 : List He.Fa := [.meth "Counts" "likelier", .meth "Counts" "next_letters", .meth "Counts" "likeliest", .meth "Counts" "strangest", .meth "Counts" "unseen", .meth "Counts" "all_made", .meth "Counts" "both", .exc "SpellFault", .exc "BadWord", .exc "BadRule", .exc "BadCount", .exc "NoSuch", .exc "NoWay", .exc "TooLarge", .exm "BadWord" "BadCount" false, .exm "BadWord" "BadRule" false, .exm "BadWord" "BadWord" true, .exm "BadWord" "NoSuch" false, .exm "BadWord" "NoWay" false, .exm "BadWord" "TooLarge" false, .exm "BadWord" "BadText" false, .exm "BadRule" "BadCount" false, .exm "BadRule" "BadRule" true, .exm "BadRule" "BadWord" false, .exm "BadRule" "NoSuch" false, .exm "BadRule" "NoWay" false, .exm "BadRule" "TooLarge" false, .exm "BadRule" "BadText" false, .exm "BadCount" "BadCount" true, .exm "BadCount" "BadRule" false]
def fa3 : List He.Fa := [.exm "BadCount" "BadWord" false, .exm "BadCount" "NoSuch" false, .exm "BadCount" "NoWay" false, .exm "BadCount" "TooLarge" false, .exm "BadCount" "BadText" false, .exm "NoSuch" "BadCount" false, .exm "NoSuch" "BadRule" false, .exm "NoSuch" "BadWord" false, .exm "NoSuch" "NoSuch" true, .exm "NoSuch" "NoWay" false, .exm "NoSuch" "TooLarge" false, .exm "NoSuch" "BadText" false, .exm "NoWay" "BadCount" false, .exm "NoWay" "BadRule" false, .exm "NoWay" "BadWord" false, .exm "NoWay" "NoSuch" false, .exm "NoWay" "NoWay" true, .exm "NoWay" "TooLarge" false, .exm "NoWay" "BadText" false, .exm "TooLarge" "BadCount" false, .exm "TooLarge" "BadRule" false, .exm "TooLarge" "BadWord" false, .exm "TooLarge" "NoSuch" false, .exm "TooLarge" "NoWay" false, .exm "TooLarge" "TooLarge" true, .exm "TooLarge" "BadText" false, .exm "BadText" "BadCount" false, .exm "BadText" "BadRule" false, .exm "BadText" "BadWord" false, .exm "BadText" "NoSuch" false]
def fa4 : List He.Fa := [.exm "BadText" "NoWay" false, .exm "BadText" "TooLarge" false, .exm "BadText" "BadText" true]
def fa : List He.Fa := fa0 ++ (fa1 ++ (fa2 ++ (fa3 ++ (fa4))))
def tq : TQ := [(("check_word", none), .plain ((("check_word" : Str) ++ ".<locals>.") ++ "<genexpr>")), (("Counts", some "next_letters"), .plain ((("Counts.next_letters" : Str) ++ ".<locals>.") ++ "<lambda>")), (("run_likeness", none), .plain ((("run_likeness" : Str) ++ ".<locals>.") ++ "<genexpr>")), (("_law_cases1", none), .plain ((("_law_cases1" : Str) ++ ".<locals>.") ++ "<lambda>")), (("_law_rest1", none), .plain ((("_law_rest1" : Str) ++ ".<locals>.") ++ "<lambda>")), (("_law_rest2", none), .plain ((("_law_rest2" : Str) ++ ".<locals>.") ++ "<lambda>"))]
def names : List PySem.Str := ["SpellFault", "BadWord", "BadRule", "BadCount", "NoSuch", "NoWay", "TooLarge", "BadText", "LETTERS", "check_word", "EDGE", "Counts", "lowest", "runs_in", "run_likeness", "most_like", "_law_flat", "_law_dice", "_law_roll", "_law_rounds", "_law_told", "_law_word", "_law_unlike", "_law_steps", "_law_same", "_law_product", "_law_cases1", "_law_rest1", "_law_rest2"]
abbrev R : PySem.W.OpenRow := PySem.W.OpenLaw.row PySem.Challenge.rw_spellhall_k08_grams
def cmc : List PySem.Str := ["Counts"]
def nums : List (PySem.Str × PySem.Str) := []
def tabs : List (PySem.Str × TabT) := []
def ts : List He.Tab := tabs.map fun t => ((fun K => He.ga K t.1), t.2.map (·.1))
def ndTab (K : PySem.W.Frag) : Bool := ((decide (tq.map fun p => (He.cT K p.1).2).Nodup && cmc.all fun c => HN.cmpB K (He.ga K c)) && nums.all fun c => numB PySem.Challenge.pw_spellhall_k08_grams.main.file K (He.ga K c.1) c.2 c.2) && tabs.all fun t => tabB K (He.ga K t.1) t.2
abbrev hk : PySem.W.Hook := Sp.hookY 5 fa fn ts (tq.map (·.1)) ndTab
def ob (s : PySem.W.SharedT) : He.AlX := Sp.obsY 5 fa fn ts (tq.map (·.1)) ndTab (HandSHeadRun.getT s)
theorem ob_eq (s : PySem.W.SharedT) : ob s = hk.obs s.abs := Sp.obsY_eq (HandSHeadRun.getT_eq s)
theorem run (w : World) : HandSHeadRun.RunEq R (PySem.W.view R.prog [33]) hk ob 4000 names w := by
  intro os
  kernel_rfl
end K08
set_option maxHeartbeats 0
set_option synthInstance.maxSize 2000
namespace K08
open PySem L2 Sp
section
variable {P : Program} {w : World} {K : Frag} {mg : Str → Option Value} {base : Heap}
theorem dice_S : FnScope ["cell"] ["cell"] d__law_dice.scope := ⟨rfl, rfl, rfl, by decide +kernel, rfl, by decide +kernel, by decide +kernel⟩
theorem ok_dice (B : Bis mg) (L : LK w K mg base fa fn tq) {fd : FuncData} (F1 : Fd K d__law_dice ["cell"] fd) : FnOk P w K mg base (L2.CX P w) 1 (He.fAd K d__law_dice.at_) fd ["cell"] (toSp K (tbOf K tq) 1 dDiceA) := by
  refine dice_D (df_ok (k := 0) L F1 dice_S dDice0 (fun As gs R E ⟨_, e, _⟩ => by rw [e]; rfl) fun cdv A outer s H F gs E ex As R X hd hex tbl ok => ?_)
  obtain ⟨c, rfl, rfl, k⟩ := hd
  refine ws_cons (w1_if (.of (etp_ltlt (evp_sub evp_int evp_int) (evp_var 0 rfl (.inl rfl) rfl) evp_int) ?_))
  by_cases h : (decide ((0 : Int) - 10 < c) && decide (c < 10)) = true
  · rw [if_pos h]
    refine ws_one (w1_ret (ev_listO (α := Int) (.of (evsp_cons (evp_abs B (by rfl) (evp_var 0 rfl (.inl rfl) rfl)) (evsp_cons evp_int (evsp_cons evp_int evsp_nil))) ⟨[_, _, _], rfl, (show 3 ≤ _ by decide), fun q => ⟨0, k _ _ _ _⟩⟩)))
  · rw [if_neg h]
    refine ws_nil ?_
    refine ws_one (w1_ret (ev_listO (α := Int) (.of (evsp_cons (evp_var 0 rfl (.inl rfl) rfl) (evsp_cons (evp_add evp_int (evp_mod (evp_int1 B (by rfl) (evp_var 0 rfl (.inl rfl) rfl)) evp_int (by decide))) (evsp_cons (evp_intB B (by rfl) (evp_cmp (cmp_ge (evp_var 0 rfl (.inl rfl) rfl) (evp_pow evp_int evp_int ⟨by decide, by decide, by decide⟩)))) evsp_nil))) ⟨[_, _, _], rfl, (show 3 ≤ _ by decide), fun q => ⟨0, k _ _ _ _⟩⟩)))
theorem roll_S : FnScope ["dice", "many", "found"] ["dice", "many"] d__law_roll.scope := ⟨rfl, rfl, rfl, by decide +kernel, rfl, by decide +kernel, by decide +kernel⟩
theorem ok_roll (B : Bis mg) (L : LK w K mg base fa fn tq) {fd : FuncData} (F1 : Fd K d__law_roll ["dice", "many"] fd) : FnOk P w K mg base (L2.CX P w) 1 (He.fAd K d__law_roll.at_) fd ["dice", "many"] (toSp K (tbOf K tq) 2 (spD rollW)) := by
  refine roll_D (df_ok (k := 0) L F1 roll_S dRollA (fun As gs R E ⟨_, _, _, _, _, e, _⟩ => by rw [e]; rfl) fun cdv A outer s H F gs E ex As R X hd hex tbl ok => ?_)
  obtain ⟨q, i, j, k, many, rfl, rfl, h0, h1, kk⟩ := hd
  have red : ∀ (r : Int), 0 ≤ r % many ∧ r % many < many := fun r => ⟨Int.emod_nonneg _ (by omega), Int.emod_lt_of_pos _ h0⟩
  refine ws_cons (w1_if (.of (etp_w (ewp_or (etp_cmp (cmp_eq (α := Int) ok (evp_own 0 0 rfl rfl rfl rfl) .pu evp_int .pu)) fun _ => ewp_or1 (etp_w (ewp_and (etp_cmp (cmp_eq (α := Int) ok (evp_own 0 0 rfl rfl rfl rfl) .pu evp_int .pu)) fun _ => ewp_and1 (etp_cmp (cmp_gt (evp_own 0 0 rfl rfl rfl rfl) evp_int)))))) ?_))
  by_cases h : (decide (k = 2) || (decide (k = 1) && decide (0 < i))) = true
  · rw [if_pos h]
    refine ws_cons (w1_set 2 ok rfl (.inl rfl) (.of (evp_mod (evp_int1 B (by rfl) (evp_own 0 0 rfl rfl rfl rfl)) (evp_var 1 rfl (.inl rfl) rfl) h0) ?_))
    refine ws_cons (w1_lput (α := Int) 0 (.of (evp_fdiv (evp_own 0 0 rfl rfl rfl rfl) (evp_var 1 rfl (.inl rfl) rfl) ⟨h0, h1⟩) ⟨_, _, 0, 0, rfl, rfl, evp_var 0 rfl (.inl rfl) rfl, evp_int, rfl, ?_⟩))
    exact ws_one (w1_ret (.of (evp_var 2 rfl (.inl rfl) rfl) ⟨0, kk _ _ _ _ (red i).1 (red i).2⟩))
  · rw [if_neg h]
    refine ws_nil ?_
    refine ws_cons (w1_lput (α := Int) 0 (.of evp_int ⟨_, _, 2, 2, rfl, rfl, evp_var 0 rfl (.inl rfl) rfl, evp_int, rfl, ?_⟩))
    refine ws_cons (w1_lput (α := Int) 0 (.of (evp_mod (evp_int1 B (by rfl) (evp_add (evp_add (evp_mul (evp_own 0 0 rfl rfl rfl rfl) evp_int (.inr (by decide))) (evp_mul (evp_own 0 0 rfl rfl rfl rfl) evp_int (.inr (by decide)))) evp_int)) evp_int (by decide)) ⟨_, _, 0, 0, rfl, rfl, evp_var 0 rfl (.inl rfl) rfl, evp_int, rfl, ?_⟩))
    refine ws_cons (w1_lput (α := Int) 0 (.of (evp_add (evp_own 0 0 rfl rfl rfl rfl) evp_int) ⟨_, _, 1, 1, rfl, rfl, evp_var 0 rfl (.inl rfl) rfl, evp_int, rfl, ?_⟩))
    exact ws_one (w1_ret (.of (evp_mod (evp_int1 B (by rfl) (evp_add (evp_fdiv (evp_own 0 0 rfl rfl rfl rfl) evp_int ⟨by decide, by decide⟩) (evp_own 0 0 rfl rfl rfl rfl))) (evp_var 1 rfl (.inl rfl) rfl) h0) ⟨0, kk _ _ _ _ (red _).1 (red _).2⟩))
theorem cut1 : ∀ ns : List Int, (cutD ns none (some 1) = [] ∨ ∃ c, cutD ns none (some 1) = [c])
  | [] => .inl (by decide)
  | c :: r => .inr ⟨c, by
    unfold cutD HT.sIx
    simp⟩
theorem rounds_S : FnScope ["script", "most", "cells", "cell"] ["script", "most"] d__law_rounds.scope := ⟨rfl, rfl, rfl, by decide +kernel, rfl, by decide +kernel, by decide +kernel⟩
theorem ok_rounds (B : Bis mg) (L : LK w K mg base fa fn tq) {fd : FuncData} (F1 : Fd K d__law_rounds ["script", "most"] fd) (G1 : Df P w K mg base (tbOf K tq) 1 "_law_dice" ["cell"] dDiceA) : FnOk P w K mg base (L2.CX P w) 2 (He.fAd K d__law_rounds.at_) fd ["script", "most"] (toSp K (tbOf K tq) 2 dRoundsA) := by
  refine df_ok (k := 1) L F1 rounds_S dRoundsA (fun As gs R E ⟨_, e, _⟩ => by rw [e]; rfl) fun cdv A outer s H F gs E ex As R X hd hex tbl ok => ?_
  obtain ⟨ns, rfl, rfl, kk⟩ := hd
  refine ws_cons (w1_set 2 ok rfl (.inl rfl) (.of (evp_slL (evp_var 0 rfl (.inl rfl) rfl) .pu evo_no (evo_at (evp_var 1 rfl (.inl rfl) rfl))) ?_))
  refine ws_cons (w1_if (.of (etp_cmp (cmp_eq (α := List Int) ok (evp_var 2 rfl (.inl rfl) rfl) .pu (evp_list (xs := ([] : List Int)) evsp_nil) .pu)) ?_))
  have tail : ∀ c : Int, Ws (bodyY P w K mg base (tbOf K tq) 1 ["script", "most", "cells", "cell"] d__law_rounds.qual d__law_rounds.scope (He.fAd K d__law_rounds.at_) cdv A outer s H F [] E ex) ⟨[some (pu ns), some (pu (1 : Int)), some (pu [c]), none], []⟩ (d__law_rounds.body.drop 2) { nx := fun s' => ∃ n, R (pu ()) (s'.gs.drop n), rt := fun A s' => ∃ n, R A (s'.gs.drop n) } := fun c => by
    refine ws_one (w1_ret (ev_lcT (α := Rf) [("cell", 3)] ok (it_list (xs := [c]) (evp_var 2 rfl (.inl rfl) rfl)) (show BlkOk ["script", "most", "cells", "cell"] d__law_rounds.scope _ _ from blk_by (by decide +kernel)) (fun z => tg_name ok.blk.nd 3 rfl (.inl rfl))
      (fun (i : Nat) (ys : List Rf) (gs' : Gs) => (i = 0 ∧ ys = [] ∧ gs' = []) ∨ (i = 1 ∧ ∃ (q : Addr), ys = [Rf.mk q] ∧ gs' = [(q, dicec)])) (.inl ⟨rfl, rfl, rfl⟩) (fun i ys gs' h hi => ?_) (fun z i x ys gs' D hx h => ?_) ?_))
    · rcases h with ⟨_, e, _⟩ | ⟨_, q, e, _⟩ <;> subst e
      · exact (show 0 < sizeLine by decide)
      · exact (show 1 < sizeLine by decide)
    · rcases h with ⟨rfl, rfl, rfl⟩ | ⟨rfl, _⟩
      · cases hx
        refine ets_nil ?_
        rw [if_pos rfl]
        intro z'
        refine ev_perm (ev_call G1 ok.blk (show 1 ≤ 1 by decide) rfl (.of (evsp_cons (evp_var 3 rfl (.inl rfl) rfl) evsp_nil) ⟨rfl, [], _, .refl _, c, rfl, rfl, fun q => ?_⟩))
        exact ⟨_, .swap _ _ _, Rf.mk q, _, rfl, rfl, .inr ⟨rfl, q, rfl, rfl⟩⟩
      · cases hx
    · intro ys gs' h
      rcases h with ⟨h, _⟩ | ⟨_, q, rfl, rfl⟩
      · cases h
      · exact ⟨0, kk _⟩
  rcases cut1 ns with e | ⟨c, e⟩
  · rw [e]
    refine ws_one (w1_set 2 ok rfl (.inl rfl) (.of (evp_list (α := Int) (xs := [0]) (evsp_cons evp_int evsp_nil)) ?_))
    exact tail 0
  · rw [e]
    rw [if_neg (by simp)]
    exact ws_nil (tail c)
def cls (K : Frag) : Cls_ := [(He.ga K "BadCount", tx "count"), (He.ga K "BadRule", tx "rule"), (He.ga K "BadWord", tx "word"), (He.ga K "NoSuch", tx "no such"), (He.ga K "NoWay", tx "no way"), (He.ga K "TooLarge", tx "large"), (He.ga K "BadText", tx "text")]
theorem ok_told {X : Cx} (L : LK w X.K X.mg base fa fn tq) {fd : FuncData} (F1 : Fd X.K d__law_told ["what"] fd) : Told X "_law_told" (cls X.K) := by
  have g : ∀ i (x : Str), fa[i]? = some (He.Fa.glo x) → X.mg x = some (.ref (He.ga X.K x)) := fun i x h => He.glo_ok L.X L.G (L.d.fact i h)
  exact told_of (Ng := ["what"]) F1 (g 9 _ rfl) rfl rfl ⟨rfl, rfl, rfl, by decide +kernel, rfl, by decide +kernel, by decide +kernel⟩ rfl
    (.cons rfl (g 23 _ rfl) (by decide) (toStr_tx _) (.cons rfl (g 22 _ rfl) (by decide) (toStr_tx _) (.cons rfl (g 21 _ rfl) (by decide) (toStr_tx _) (.cons rfl (g 24 _ rfl) (by decide) (toStr_tx _) (.cons rfl (g 25 _ rfl) (by decide) (toStr_tx _) (.cons rfl (g 26 _ rfl) (by decide) (toStr_tx _) (.cons rfl (g 27 _ rfl) (by decide) (toStr_tx _) .nil)))))))
    rfl (.inl rfl) (by decide) (by decide) (fun f => rfl)
theorem told_tells (c : He.SaysD fa fn K) : ∀ e t, toldT e = some t → Tell K (cls K) (exK K e).C t
  | .BadWord, t, h => by cases h; exact .no (He.exm_ok (c.fact 74 rfl)) (.no (He.exm_ok (c.fact 75 rfl)) (.yes (He.exm_ok (c.fact 76 rfl))))
  | .BadRule, t, h => by cases h; exact .no (He.exm_ok (c.fact 81 rfl)) (.yes (He.exm_ok (c.fact 82 rfl)))
  | .BadCount, t, h => by cases h; exact .yes (He.exm_ok (c.fact 88 rfl))
  | .NoSuch, t, h => by cases h; exact .no (He.exm_ok (c.fact 95 rfl)) (.no (He.exm_ok (c.fact 96 rfl)) (.no (He.exm_ok (c.fact 97 rfl)) (.yes (He.exm_ok (c.fact 98 rfl)))))
  | .NoWay, t, h => by cases h; exact .no (He.exm_ok (c.fact 102 rfl)) (.no (He.exm_ok (c.fact 103 rfl)) (.no (He.exm_ok (c.fact 104 rfl)) (.no (He.exm_ok (c.fact 105 rfl)) (.yes (He.exm_ok (c.fact 106 rfl))))))
  | .TooLarge, t, h => by cases h; exact .no (He.exm_ok (c.fact 109 rfl)) (.no (He.exm_ok (c.fact 110 rfl)) (.no (He.exm_ok (c.fact 111 rfl)) (.no (He.exm_ok (c.fact 112 rfl)) (.no (He.exm_ok (c.fact 113 rfl)) (.yes (He.exm_ok (c.fact 114 rfl)))))))
  | .BadDeed, t, h => by cases h
  | .BadText _, t, h => by cases h; exact .no (He.exm_ok (c.fact 116 rfl)) (.no (He.exm_ok (c.fact 117 rfl)) (.no (He.exm_ok (c.fact 118 rfl)) (.no (He.exm_ok (c.fact 119 rfl)) (.no (He.exm_ok (c.fact 120 rfl)) (.no (He.exm_ok (c.fact 121 rfl)) (.yes (He.exm_ok (c.fact 122 rfl))))))))
  | .BadPaper _, t, h => by cases h
abbrev check_word_N : List Str := ["word", "sign"]
theorem check_word_S : FnScope check_word_N ["word"] d_check_word.scope := ⟨rfl, rfl, rfl, by decide +kernel, rfl, by decide +kernel, by decide +kernel⟩
theorem ok_check_word (B : Bis mg) (L : LK w K mg base fa fn tq) {fd : FuncData} (F1 : Fd K d_check_word ["word"] fd)  : FnOk P w K mg base (L2.CX P w) 3 (He.fAd K d_check_word.at_) fd ["word"] (toSp K (tbOf K tq) 1 (spF K check_word_W)) := by
  refine fn_F (k := 2) (some ()) L F1 check_word_S check_word_W noneUnit (fun _ => rfl) ?_
  intro z t Q E h ye tbl
  obtain ⟨word1, ⟨⟩⟩ := t
  show Ws _ (⟨[some (pu word1), none], []⟩ : DSt) _ _
  refine s_if (B := E .BadWord) (C := Q ()) (t_w (w_orP (y := ((word1.map fun c => [c]).any (fun (x2 : Txt) => (!tin x2 (tx "abcdefghijklmnopqrstuvwxyz"))))) (t_not (t_chainV (24 : Int) c_int (c_lenS B (by rfl) (c_v 0 rfl rfl)) c_int op_le op_le)) (w_or1 (t_v (fun _ => rfl) (c_any0 (.n 1) 0 [1] (word1.map fun c => [c]) (fun (x2 : Txt) => (!tin x2 (tx "abcdefghijklmnopqrstuvwxyz"))) ye.ok B (by rfl) (Nat.le_of_ble_eq_true rfl) (i_txt (c_v 0 rfl rfl)) (show GenOk check_word_N d_check_word.scope _ _ from genOk_by (by decide +kernel)) (.pl (tbl _ (List.mem_of_getElem? (i := 0) rfl))) (fun z => (tg_gen ye.ok z 1 rfl)) (fun _ o (x2 : Txt) => (c_k (k_ninS (c_v 1 rfl rfl) (c_gs rfl (He.str_ok L.X L.G (L.d.fact 47 rfl))))))))))) ?_ ?_ (by exact h)
  · intro h
    exact s_raise 0 .BadWord ye (L.err 68 21) rfl rfl rfl (by exact h)
  intro h
  refine ws_nil ?_
  exact ws_nil ⟨⟨0, rfl⟩, _, rfl, h⟩
abbrev hself (K : Frag) (qr qw : Addr) (size : Int) : Cell := insc (He.ga K "Counts") [("size", pu size), ("rows", raw (.ref qr)), ("whole", raw (.ref qw))]
abbrev hgs (K : Frag) (q qr qw : Addr) (size : Int) (z : Rws × Whl) (f : Nat → Addr) : Gs := (q, hself K qr qw size) :: (qr, dctc (grefs z.1 f)) :: (qw, dctc z.2) :: hcells z.1 f
def tellSp (K : Frag) : DSp := fun As gs R E => ∃ (q qr qw : Addr) (f : Nat → Addr) (size : Int) (z : Rws × Whl) (word : Txt) (many : Int), As = [raw (.ref q), pu word, pu many] ∧ gs = hgs K q qr qw size z f ∧ ∃ R0 E0, Counts_tell_W (size, z, word, many) R0 E0 ∧ (∀ z', R0 z' → ∀ f', R (pu ()) (hgs K q qr qw size z' f')) ∧ ∀ e, E0 e → E (exK K e) (hgs K q qr qw size z f)
theorem tellSp_mono {K : Frag} : DMono (tellSp K) := fun As gs R R' E E' h1 h2 ⟨q, qr, qw, f, size, z, word, many, e1, e2, R0, E0, hw, hr, he⟩ => ⟨q, qr, qw, f, size, z, word, many, e1, e2, R0, E0, hw, fun z' q f' => h1 _ _ (hr z' q f'), fun e q => h2 _ _ (he e q)⟩
theorem dval_hop {m : Rws} {k : Txt} : ∃ v, dval (hop m k) k = some v := by
  unfold hop
  by_cases h : (dval m k).isSome = true
  · rw [if_pos h]; exact Option.isSome_iff_exists.mp h
  · rw [if_neg h]
    refine ⟨[], ?_⟩
    have hn : dval m k = none := by cases e : dval m k with
      | none => rfl
      | some v => rw [e] at h; exact absurd rfl h
    unfold dval at hn ⊢
    rw [List.find?_append]
    rw [Option.map_eq_none_iff] at hn
    rw [hn]
    simp
abbrev Counts_tell_N : List Str := ["self", "word", "many", "text", "k", "start", "sign"]
theorem Counts_tell_S : FnScope Counts_tell_N ["self", "word", "many"] d_Counts_tell.scope := ⟨rfl, rfl, rfl, by decide +kernel, rfl, by decide +kernel, by decide +kernel⟩
theorem ok_Counts_tell (B : Bis mg) (L : LK w K mg base fa fn tq) {fd : FuncData} (F1 : Fd K d_Counts_tell ["self", "word", "many"] fd) (G_check_word : Df P w K mg base (tbOf K tq) 3 "check_word" ["word"] (spF K check_word_W)) : FnOk P w K mg base (L2.CX P w) 4 (He.fAd K d_Counts_tell.at_) fd ["self", "word", "many"] (toSp K (tbOf K tq) 3 (tellSp K)) := by
  refine df_ok (k := 3) L F1 Counts_tell_S (tellSp K) (fun As gs R E ⟨_, _, _, _, _, _, _, _, e, _⟩ => by rw [e]; rfl) fun cdv A outer s H F gs E ex As R X hd hex tbl ok => ?_
  obtain ⟨q0, qr, qw, f0, size, z0, word1, many2, rfl, rfl, R0, E0, h, hr, hE⟩ := hd
  have ye : YE (bodyY P w K mg base (tbOf K tq) 3 Counts_tell_N d_Counts_tell.qual d_Counts_tell.scope (He.fAd K d_Counts_tell.at_) cdv A outer s H F (hgs K q0 qr qw size z0 f0) E ex) (fun gs => gs = hgs K q0 qr qw size z0 f0) E0 := ⟨ok, fun e s' ⟨n, hn⟩ he => hex _ _ ⟨n, by rw [hn]; exact hE e he⟩⟩
  show Ws _ (⟨[some (raw (.ref q0)), some (pu word1), some (pu many2), none, none, none, none], hgs K q0 qr qw size z0 f0⟩ : DSt) _ _
  refine s_expr (R := fun (_ : Unit) => Counts_tell_w2 size word1 many2 z0 R0) (c_call (w := check_word_W) 0 ye G_check_word (Nat.le_of_ble_eq_true rfl) rfl (a_cons (c_v 1 rfl rfl) a_nil) (fun _ => rfl) rfl) ?_ (by exact h)
  intro _ h
  refine s_asg (R := fun (text3 : Txt) => Counts_tell_w1 size text3 many2 z0 R0) 3 ye.ok rfl (c_catS (c_catS (c_mulS (c_gs rfl (He.str_ok L.X L.G (L.d.fact 48 rfl))) (c_sub (c_fldO 0 0 (He.cls_ok (L.d.fact 49 rfl)) (He.noat_ok (L.d.fact 51 rfl)) rfl rfl rfl rfl) c_int)) (c_v 1 rfl rfl)) (c_gs rfl (He.str_ok L.X L.G (L.d.fact 48 rfl)))) ?_ (by exact h)
  intro text3 h
  show Ws _ (⟨[some (raw (.ref q0)), some (pu word1), some (pu many2), some (pu text3), none, none, none], hgs K q0 qr qw size z0 f0⟩ : DSt) _ _
  refine s_for (Z := Rws × Whl) (J := Option Pv × Option Pv × Option Pv × (Nat → Addr)) (Body := fun (k : Int) (z : Rws × Whl) (nx : Rws × Whl → Prop) => Counts_tell_b size text3 many2 k z nx) (Rest := R0) (.n 4) (fun (z : Rws × Whl) (j : Option Pv × Option Pv × Option Pv × (Nat → Addr)) => (⟨[some (raw (.ref q0)), some (pu word1), some (pu many2), some (pu text3), j.1, j.2.1, j.2.2.1], hgs K q0 qr qw size z j.2.2.2⟩ : DSt)) z0 (none, none, none, f0) ye.ok (i_range1 ye.ok B (by rfl) (c_add (c_sub (c_lenS B (by rfl) (c_v 3 rfl rfl)) (c_fldO 0 0 (He.cls_ok (L.d.fact 49 rfl)) (He.noat_ok (L.d.fact 51 rfl)) rfl rfl rfl rfl)) c_int)) (tg_nm ye.ok.nd 4 rfl) rfl ?_ ?_ (by exact h)
  · intro k5 z j nx h
    show Ws _ (⟨[some (raw (.ref q0)), some (pu word1), some (pu many2), some (pu text3), some (pu k5), j.2.1, j.2.2.1], hgs K q0 qr qw size z j.2.2.2⟩ : DSt) _ _
    refine s_par (R := fun (start sign : Txt) => Counts_tell_c start sign many2 z nx) 5 6 ye.ok rfl rfl (c_slS (c_v 3 rfl rfl) (o_at (c_v 4 rfl rfl)) (o_at (c_sub (c_add (c_v 4 rfl rfl) (c_fldO 0 0 (He.cls_ok (L.d.fact 49 rfl)) (He.noat_ok (L.d.fact 51 rfl)) rfl rfl rfl rfl)) c_int))) (c_ixS (c_v 3 rfl rfl) (c_sub (c_add (c_v 4 rfl rfl) (c_fldO 0 0 (He.cls_ok (L.d.fact 49 rfl)) (He.noat_ok (L.d.fact 51 rfl)) rfl rfl rfl rfl)) c_int)) ?_ (by exact h)
    intro start sign h
    obtain ⟨h1, h2, h3, h4⟩ := h
    show Ws _ (⟨[some (raw (.ref q0)), some (pu word1), some (pu many2), some (pu text3), some (pu k5), some (pu start), some (pu sign)], hgs K q0 qr qw size z j.2.2.2⟩ : DSt) _ _
    refine s_hop (R := fun k => k = start) (m := z.1) (fA := j.2.2.2) (front := [(q0, hself K qr qw size), (qr, dctc (grefs z.1 j.2.2.2)), (qw, dctc z.2)]) (g := 1) (evp_fld (He.cls_ok (L.d.fact 49 rfl)) (He.noat_ok (L.d.fact 52 rfl)) (evp_v 0 rfl rfl) (IA.own 0 rfl) rfl (by exact ab_ok rfl)) rfl rfl (c_v 5 rfl rfl) ?_ (by exact ⟨h1, rfl⟩)
    intro k1 f1 ek
    subst ek
    obtain ⟨row, hrow⟩ := dval_hop (m := z.1) (k := k1)
    rcases h_find (hop z.1 k1) f1 k1 with ⟨_, g2, _⟩ | ⟨jj, a, v, g1, g2, g3, g4⟩
    · rw [hrow] at g2; cases g2
    rw [hrow] at g1
    cases g1
    show Ws _ (⟨[some (raw (.ref q0)), some (pu word1), some (pu many2), some (pu text3), some (pu k5), some (pu k1), some (pu sign)], hgs K q0 qr qw size (hop z.1 k1, z.2) f1⟩ : DSt) _ _
    have gdg : dgt (grefs (hop z.1 k1) f1) k1 = Rf.mk a := by unfold dgt; rw [g2]; rfl
    have gdh : dhas (grefs (hop z.1 k1) f1) k1 = true := by unfold dhas; rw [g2]; rfl
    have gjj : (hgs K q0 qr qw size (hop z.1 k1, z.2) f1)[jj + 3]? = some (a, dctc row) := g3
    have grow : ((dval (hop z.1 k1) k1).getD []) = row := by rw [hrow]; rfl
    refine s_rput (κ2 := Txt) (ν := Int) (R := fun (v : Int) (r : Rf) (k : Txt) => v = (dval row sign).getD (0 : Int) + many2 ∧ r = Rf.mk a ∧ k = sign) ye.ok (c_add (c_dget2 ye.ok (d_rf (c_dget (ν := Rf) ye.ok (d_ownF 0 0 1 (He.cls_ok (L.d.fact 49 rfl)) (He.noat_ok (L.d.fact 52 rfl)) rfl rfl rfl rfl rfl) (c_v 5 rfl rfl))) (c_v 6 rfl rfl) c_int) (c_v 2 rfl rfl)) (c_dget (ν := Rf) ye.ok (d_ownF 0 0 1 (He.cls_ok (L.d.fact 49 rfl)) (He.noat_ok (L.d.fact 52 rfl)) rfl rfl rfl rfl rfl) (c_v 5 rfl rfl)) (c_v 6 rfl rfl) ?_ ?_
    · rintro v r k ⟨rfl, rfl, rfl⟩
      refine ⟨jj + 3, row, gjj, by rw [← grow]; exact h2, ?_⟩
      have hc := g4 (dput row k ((dval row k).getD (0 : Int) + many2))
      have hst : (hgs K q0 qr qw size (hop z.1 k1, z.2) f1).set (jj + 3) (a, dctc (dput row k ((dval row k).getD (0 : Int) + many2))) = hgs K q0 qr qw size (rset (hop z.1 k1) k1 (dput row k ((dval row k).getD (0 : Int) + many2)), z.2) f1 := by
        show (q0, hself K qr qw size) :: (qr, dctc (grefs (hop z.1 k1) f1)) :: (qw, dctc z.2) :: (hcells (hop z.1 k1) f1).set jj _ = (q0, hself K qr qw size) :: (qr, dctc (grefs (rset (hop z.1 k1) k1 _) f1)) :: (qw, dctc z.2) :: hcells (rset (hop z.1 k1) k1 _) f1
        rw [hc.1, hc.2]
      show Ws _ (⟨_, (hgs K q0 qr qw size (hop z.1 k1, z.2) f1).set (jj + 3) _⟩ : DSt) _ _
      rw [hst]
      refine s_fput (R := fun (v : Whl) => nx (rset (hop z.1 k1) k1 (dput row k ((dval row k).getD (0 : Int) + many2)), v)) 0 0 2 (He.cls_ok (L.d.fact 49 rfl)) (He.noat_ok (L.d.fact 53 rfl)) ye.ok rfl rfl rfl rfl rfl (c_add (c_dget2 ye.ok (d_ownF 0 0 2 (He.cls_ok (L.d.fact 49 rfl)) (He.noat_ok (L.d.fact 53 rfl)) rfl rfl rfl rfl rfl) (c_v 5 rfl rfl) c_int) (c_v 2 rfl rfl)) (c_v 5 rfl rfl) ?_ (by
        refine ⟨h3, ?_⟩
        have := h4
        unfold cput at this
        rw [show (hop z.1 k1, z.2).1 = hop z.1 k1 from rfl, grow] at this
        exact this)
      intro v h
      exact ws_nil ⟨(rset (hop z.1 k1) k1 (dput row k ((dval row k).getD (0 : Int) + many2)), v), (some (pu k5), some (pu k1), some (pu k), f1), rfl, h⟩
    · refine ⟨gdh, jj + 3, row, by rw [gdg]; exact gjj, ?_⟩
      exact ⟨gdh, rfl, gdg, rfl⟩
  · intro z j h
    exact ws_nil ⟨0, hr z h _⟩
theorem hgs_last {K : Frag} {q qr qw : Addr} {size : Int} {z : Rws × Whl} {f : Nat → Addr} : (hgs K q qr qw size z f).Perm (((qr, dctc (grefs z.1 f)) :: (qw, dctc z.2) :: hcells z.1 f) ++ [(q, hself K qr qw size)]) := List.perm_append_comm (l₁ := [(q, hself K qr qw size)])
abbrev Counts_init_N : List Str := ["self", "words", "size", "word"]
theorem Counts_init_S : FnScope Counts_init_N ["self", "words", "size"] d_Counts_init.scope := ⟨rfl, rfl, rfl, by decide +kernel, rfl, by decide +kernel, by decide +kernel⟩
theorem ok_Counts_init (B : Bis mg) (L : LK w K mg base fa fn tq) {fd : FuncData} (F1 : Fd K d_Counts_init ["self", "words", "size"] fd) (G_Counts_tell : Mt P w K mg base (tbOf K tq) 4 (He.ga K "Counts") "tell" ["self", "word", "many"] (tellSp K)) : FnOk P w K mg base (L2.CX P w) 5 (He.fAd K d_Counts_init.at_) fd ["self", "words", "size"] (toSp K (tbOf K tq) 3 (spI K Counts_init_W)) := by
  refine fn_I (γ := CountsV) (k := 4) L F1 Counts_init_S Counts_init_W (fun _ => rfl) ?_
  intro q0 z t Q E h ye tbl
  obtain ⟨words1, size2, ⟨⟩⟩ := t
  show Ws _ (⟨[some (raw (.ref q0)), some (pu words1), some (pu size2), none], [_]⟩ : DSt) _ _
  refine s_if (B := E .BadCount) (C := Counts_init_w1 words1 size2 Q E) (t_not (t_chainV (4 : Int) c_int (c_v 2 rfl rfl) c_int op_le op_le)) ?_ ?_ (by exact h)
  · intro h
    exact s_raise 0 .BadCount ye (L.err 70 23) rfl rfl ⟨_, rfl⟩ (by exact h)
  intro h
  refine ws_nil ?_
  refine s_fld (hl := by first | decide | exact of_decide_eq_true rfl) (R := fun (size3 : Int) => Counts_init_w1 words1 size3 Q E) 0 0 (He.cls_ok (L.d.fact 49 rfl)) (He.noat_ok (L.d.fact 51 rfl)) rfl rfl rfl (c_v 2 rfl rfl) ?_ (by exact h)
  intro size3 h
  try dsimp only
  show Ws _ (⟨[some (raw (.ref q0)), some (pu words1), some (pu size2), none], [_]⟩ : DSt) _ _
  refine s_fldM (hl := by first | decide | exact of_decide_eq_true rfl) (R := fun (m : List (Txt × Rf)) => m = []) 0 0 (He.cls_ok (L.d.fact 49 rfl)) (He.noat_ok (L.d.fact 52 rfl)) rfl rfl rfl (m_new (κ := Txt) (ν := Rf)) ?_ rfl
  intro qr m1 em
  subst em
  refine s_fldM (hl := by first | decide | exact of_decide_eq_true rfl) (R := fun (m : Whl) => m = []) 0 1 (He.cls_ok (L.d.fact 49 rfl)) (He.noat_ok (L.d.fact 53 rfl)) rfl rfl rfl (m_new (κ := Txt) (ν := Int)) ?_ rfl
  intro qw m2 em
  subst em
  refine ws_perm (gs' := hgs K q0 qr qw size3 ([], []) (fun _ => q0)) ?_ ?_
  · show List.Perm [(qw, _), (qr, _), (q0, _)] [(q0, _), (qr, _), (qw, _)]
    refine (List.Perm.swap _ _ _).trans ?_
    refine ((List.Perm.swap (q0, _) (qw, _) []).cons _).trans ?_
    exact List.Perm.swap _ _ _
  refine s_for (Z := Rws × Whl) (J := Option Pv × (Nat → Addr)) (Body := fun (x : Txt) (z : Rws × Whl) (nx : Rws × Whl → Prop) => Cl (Counts_tell_W (size3, z, x, (1 : Int))) nx E) (Rest := fun (z : Rws × Whl) => Q (CountsV.mk size3 (Dct.mk (frzH z.1)) (Dct.mk z.2))) (.n 3) (fun (z : Rws × Whl) (j : Option Pv × (Nat → Addr)) => (⟨[some (raw (.ref q0)), some (pu words1), some (pu size2), j.1], hgs K q0 qr qw size3 z j.2⟩ : DSt)) ([], []) (none, fun _ => q0) ye.ok (i_list (c_v 1 rfl rfl)) (tg_nm ye.ok.nd 3 rfl) rfl ?_ ?_ (by exact h)
  · intro x z j nx h
    show Ws _ (⟨[some (raw (.ref q0)), some (pu words1), some (pu size2), some (pu x)], hgs K q0 qr qw size3 z j.2⟩ : DSt) _ _
    obtain ⟨R1, E1, hw, h1, h2⟩ := h
    refine s_methG (V := fun k => k (x, (1 : Int), ())) 0 0 ye.ok G_Counts_tell (He.cls_ok (L.d.fact 49 rfl)) (Nat.le_of_ble_eq_true rfl) rfl rfl rfl (a_cons (c_v 3 rfl rfl) (a_cons c_int a_nil)) (fun _ => rfl) ?_
    refine ⟨q0, qr, qw, j.2, size3, z, x, 1, rfl, rfl, R1, E1, hw, fun z' r f' => ?_, fun e r => ?_⟩
    · exact ws_nil ⟨z', (some (pu x), f'), rfl, h1 _ r⟩
    · refine ⟨_, hgs_last, ye.ex e _ ⟨((qr, dctc (grefs z.1 j.2)) :: (qw, dctc z.2) :: hcells z.1 j.2).length, ⟨[("size", pu size3), ("rows", raw (.ref qr)), ("whole", raw (.ref qw))], List.drop_left⟩⟩ (h2 _ r)⟩
  · intro z j h
    refine ws_frH (front := [(q0, hself K qr qw size3), (qr, dctc (grefs z.1 j.2)), (qw, dctc z.2)]) (m := z.1) (f := j.2) 1 rfl rfl ?_
    refine ws_frFD (f := "rows") (m := frzH z.1) 0 1 (by decide) rfl rfl rfl ?_
    refine ws_frFD (f := "whole") (m := z.2) 0 1 (by decide) rfl rfl rfl ?_
    exact ws_nil ⟨CountsV.mk size3 (Dct.mk (frzH z.1)) (Dct.mk z.2), ⟨0, rfl⟩, h⟩
def init2Sp (K : Frag) : DSp := fun As gs R E => ∃ (q : Addr) (size : Int), As = [raw (.ref q), pu (PySem.W.Tup.mk ([] : List Txt)), pu size] ∧ gs = [(q, insc (He.ga K "Counts") [])] ∧ (1 : Int) ≤ size ∧ size ≤ (4 : Int) ∧ ∀ qr qw f, R (pu ()) (hgs K q qr qw size ([], []) f)
theorem init2Sp_mono {K : Frag} : DMono (init2Sp K) := fun As gs R R' E E' h1 h2 ⟨q, size, e1, e2, l1, l2, h⟩ => ⟨q, size, e1, e2, l1, l2, fun qr qw f => h1 _ _ (h qr qw f)⟩
theorem ok_Counts_init_2 (B : Bis mg) (L : LK w K mg base fa fn tq) {fd : FuncData} (F1 : Fd K d_Counts_init ["self", "words", "size"] fd) : FnOk P w K mg base (L2.CX P w) 5 (He.fAd K d_Counts_init.at_) fd ["self", "words", "size"] (toSp K (tbOf K tq) 3 (init2Sp K)) := by
  refine df_ok (k := 4) L F1 Counts_init_S (init2Sp K) (fun As gs R E ⟨_, _, e, _⟩ => by rw [e]; rfl) fun cdv A outer s H F gs E ex As R X hd hex tbl ok => ?_
  obtain ⟨q0, size2, rfl, rfl, l1, l2, hr⟩ := hd
  show Ws _ (⟨[some (raw (.ref q0)), some (pu (PySem.W.Tup.mk ([] : List Txt))), some (pu size2), none], [_]⟩ : DSt) _ _
  refine s_if (B := False) (C := True) (t_not (t_chainV (4 : Int) c_int (c_v 2 rfl rfl) c_int op_le op_le)) (fun h => h.elim) ?_ (by
    refine ⟨fun _ => rfl, fun h => ?_, fun _ => trivial⟩
    rw [decide_eq_true l1, decide_eq_true l2] at h
    cases h)
  intro _
  refine ws_nil ?_
  refine s_fld (hl := by first | decide | exact of_decide_eq_true rfl) (R := fun (size3 : Int) => size3 = size2) 0 0 (He.cls_ok (L.d.fact 49 rfl)) (He.noat_ok (L.d.fact 51 rfl)) rfl rfl rfl (c_v 2 rfl rfl) ?_ rfl
  intro size3 em
  subst em
  try dsimp only
  show Ws _ (⟨[some (raw (.ref q0)), some (pu (PySem.W.Tup.mk ([] : List Txt))), some (pu size3), none], [_]⟩ : DSt) _ _
  refine s_fldM (hl := by first | decide | exact of_decide_eq_true rfl) (R := fun (m : List (Txt × Rf)) => m = []) 0 0 (He.cls_ok (L.d.fact 49 rfl)) (He.noat_ok (L.d.fact 52 rfl)) rfl rfl rfl (m_new (κ := Txt) (ν := Rf)) ?_ rfl
  intro qr m1 em
  subst em
  refine s_fldM (hl := by first | decide | exact of_decide_eq_true rfl) (R := fun (m : Whl) => m = []) 0 1 (He.cls_ok (L.d.fact 49 rfl)) (He.noat_ok (L.d.fact 53 rfl)) rfl rfl rfl (m_new (κ := Txt) (ν := Int)) ?_ rfl
  intro qw m2 em
  subst em
  refine ws_perm (gs' := hgs K q0 qr qw size3 ([], []) (fun _ => q0)) ?_ ?_
  · show List.Perm [(qw, _), (qr, _), (q0, _)] [(q0, _), (qr, _), (qw, _)]
    refine (List.Perm.swap _ _ _).trans ?_
    refine ((List.Perm.swap (q0, _) (qw, _) []).cons _).trans ?_
    exact List.Perm.swap _ _ _
  refine s_for (β := Txt) (Z := Unit) (J := Unit) (Body := fun (x : Txt) (z : Unit) (nx : Unit → Prop) => False) (Rest := fun (z : Unit) => True) (.n 3) (fun (z : Unit) (j : Unit) => (⟨[some (raw (.ref q0)), some (pu (PySem.W.Tup.mk ([] : List Txt))), some (pu size3), none], hgs K q0 qr qw size3 ([], []) (fun _ => q0)⟩ : DSt)) () () ok (i_tup (c_v 1 rfl rfl)) (tg_nm ok.nd 3 rfl) rfl (fun x z j nx h => h.elim) ?_ ⟨fun _ _ => True, trivial, fun i x z hx => by simp at hx, fun _ _ => trivial⟩
  intro z j _
  exact ws_nil ⟨0, hr _ _ _⟩
abbrev Counts_share_N : List Str := ["self", "start", "sign"]
theorem Counts_share_S : FnScope Counts_share_N ["self", "start", "sign"] d_Counts_share.scope := ⟨rfl, rfl, rfl, by decide +kernel, rfl, by decide +kernel, by decide +kernel⟩
theorem ok_Counts_share (B : Bis mg) (L : LK w K mg base fa fn tq) {fd : FuncData} (F1 : Fd K d_Counts_share ["self", "start", "sign"] fd)  : FnOk P w K mg base (L2.CX P w) 1 (He.fAd K d_Counts_share.at_) fd ["self", "start", "sign"] (toSp K (tbOf K tq) 3 (spF K Counts_share_W)) := by
  refine fn_F (k := 0) none L F1 Counts_share_S Counts_share_W noneNo (fun _ => rfl) ?_
  intro z t Q E h ye tbl
  obtain ⟨self1, start2, sign3, ⟨⟩⟩ := t
  show Ws _ (⟨[some (pu self1), some (pu start2), some (pu sign3)], []⟩ : DSt) _ _
  refine s_ret (R := fun (v4 : (Int × Int)) => Q v4) (c_tup2 (a_cons (c_dget2 ye.ok (c_d (c_dget2 ye.ok (c_d (c_fld CountsV.rows (He.cls_ok (L.d.fact 49 rfl)) (He.noat_ok (L.d.fact 52 rfl)) (c_v 0 rfl rfl))) (c_v 1 rfl rfl) (c_dnew (κ := Txt) (ν := Int)))) (c_v 2 rfl rfl) c_int) (a_cons (c_dget2 ye.ok (c_d (c_fld CountsV.whole (He.cls_ok (L.d.fact 49 rfl)) (He.noat_ok (L.d.fact 53 rfl)) (c_v 0 rfl rfl))) (c_v 1 rfl rfl) c_int) a_nil))) (by exact h) ?_
  intro v4 h
  try dsimp only
  exact ⟨⟨0, rfl⟩, _, rfl, h⟩
abbrev Counts_smooth_N : List Str := ["self", "start", "sign", "top", "bottom"]
theorem Counts_smooth_S : FnScope Counts_smooth_N ["self", "start", "sign"] d_Counts_smooth.scope := ⟨rfl, rfl, rfl, by decide +kernel, rfl, by decide +kernel, by decide +kernel⟩
theorem ok_Counts_smooth (B : Bis mg) (L : LK w K mg base fa fn tq) {fd : FuncData} (F1 : Fd K d_Counts_smooth ["self", "start", "sign"] fd) (G_Counts_share : Mt P w K mg base (tbOf K tq) 1 (He.ga K "Counts") "share" ["self", "start", "sign"] (spF K Counts_share_W)) : FnOk P w K mg base (L2.CX P w) 2 (He.fAd K d_Counts_smooth.at_) fd ["self", "start", "sign"] (toSp K (tbOf K tq) 3 (spF K Counts_smooth_W)) := by
  refine fn_F (k := 1) none L F1 Counts_smooth_S Counts_smooth_W noneNo (fun _ => rfl) ?_
  intro z t Q E h ye tbl
  obtain ⟨self1, start2, sign3, ⟨⟩⟩ := t
  show Ws _ (⟨[some (pu self1), some (pu start2), some (pu sign3), none, none], []⟩ : DSt) _ _
  refine s_asgT (R := fun (u5 : (Int × Int)) => Q ((u5.1 + (1 : Int)), (u5.2 + (27 : Int)))) (.p (.n 3) (.n 4)) (tg_pair ye.ok.calm (tg_nm ye.ok.nd 3 rfl) (tg_nm ye.ok.nd 4 rfl)) (c_meth (w := Counts_share_W) 0 ye G_Counts_share (He.cls_ok (L.d.fact 49 rfl)) (Nat.le_of_ble_eq_true rfl) (c_v 0 rfl rfl) (a_cons (c_v 1 rfl rfl) (a_cons (c_v 2 rfl rfl) a_nil)) (fun _ => rfl) rfl) ?_ (by exact h)
  intro u5 h
  try dsimp only
  show Ws _ (⟨[some (pu self1), some (pu start2), some (pu sign3), some (pu u5.1), some (pu u5.2)], []⟩ : DSt) _ _
  refine s_ret (R := fun (v6 : (Int × Int)) => Q v6) (c_tup2 (a_cons (c_add (c_v 3 rfl rfl) c_int) (a_cons (c_add (c_v 4 rfl rfl) c_int) a_nil))) (by exact h) ?_
  intro v6 h
  try dsimp only
  exact ⟨⟨0, rfl⟩, _, rfl, h⟩
abbrev Counts_steps_along_N : List Str := ["self", "word", "text", "k"]
theorem Counts_steps_along_S : FnScope Counts_steps_along_N ["self", "word"] d_Counts_steps_along.scope := ⟨rfl, rfl, rfl, by decide +kernel, rfl, by decide +kernel, by decide +kernel⟩
theorem ok_Counts_steps_along (B : Bis mg) (L : LK w K mg base fa fn tq) {fd : FuncData} (F1 : Fd K d_Counts_steps_along ["self", "word"] fd)  : FnOk P w K mg base (L2.CX P w) 1 (He.fAd K d_Counts_steps_along.at_) fd ["self", "word"] (toSp K (tbOf K tq) 2 (spF K Counts_steps_along_W)) := by
  refine fn_F (k := 0) none L F1 Counts_steps_along_S Counts_steps_along_W noneNo (fun _ => rfl) ?_
  intro z t Q E h ye tbl
  obtain ⟨self1, word2, ⟨⟩⟩ := t
  show Ws _ (⟨[some (pu self1), some (pu word2), none, none], []⟩ : DSt) _ _
  refine s_asg (R := fun (text3 : Txt) => (Counts_steps_along_w1 self1 text3 Q)) 2 ye.ok rfl (c_catS (c_catS (c_mulS (c_gs rfl (He.str_ok L.X L.G (L.d.fact 48 rfl))) (c_sub (c_fld CountsV.size (He.cls_ok (L.d.fact 49 rfl)) (He.noat_ok (L.d.fact 51 rfl)) (c_v 0 rfl rfl)) c_int)) (c_v 1 rfl rfl)) (c_gs rfl (He.str_ok L.X L.G (L.d.fact 48 rfl)))) ?_ (by exact h)
  intro text3 h
  try dsimp only
  show Ws _ (⟨[some (pu self1), some (pu word2), some (pu text3), none], []⟩ : DSt) _ _
  refine s_ret (R := fun (v5 : (Tup (Txt × Txt))) => Q v5) (c_tupL B (by rfl) (c_l (c_L ye.ok (l_lc0 (.n 3) [("k", 3)] (fun (x4 : Int) => ((cutD text3 (some x4) (some ((x4 + self1.size) - (1 : Int)))), (ixS text3 ((x4 + self1.size) - (1 : Int))))) ye.ok (i_range1 ye.ok B (by rfl) (c_add (c_sub (c_lenS B (by rfl) (c_v 2 rfl rfl)) (c_fld CountsV.size (He.cls_ok (L.d.fact 49 rfl)) (He.noat_ok (L.d.fact 51 rfl)) (c_v 0 rfl rfl))) c_int)) (show BlkOk Counts_steps_along_N d_Counts_steps_along.scope _ _ from blk_by (by decide +kernel)) (fun z => (tg_blk ye.ok z 3 rfl)) (fun _ (x4 : Int) _ _ => (c_tup2 (a_cons (c_slS (c_v 2 rfl rfl) (o_at (c_v 3 rfl rfl)) (o_at (c_sub (c_add (c_v 3 rfl rfl) (c_fld CountsV.size (He.cls_ok (L.d.fact 49 rfl)) (He.noat_ok (L.d.fact 51 rfl)) (c_v 0 rfl rfl))) c_int))) (a_cons (c_ixS (c_v 2 rfl rfl) (c_sub (c_add (c_v 3 rfl rfl) (c_fld CountsV.size (He.cls_ok (L.d.fact 49 rfl)) (He.noat_ok (L.d.fact 51 rfl)) (c_v 0 rfl rfl))) c_int)) a_nil)))))))) (by exact h) ?_
  intro v5 h
  try dsimp only
  exact ⟨⟨0, rfl⟩, _, rfl, h⟩
abbrev lowest_N : List Str := ["top", "bottom", "a", "b"]
theorem lowest_S : FnScope lowest_N ["top", "bottom"] d_lowest.scope := ⟨rfl, rfl, rfl, by decide +kernel, rfl, by decide +kernel, by decide +kernel⟩
theorem ok_lowest (B : Bis mg) (L : LK w K mg base fa fn tq) {fd : FuncData} (F1 : Fd K d_lowest ["top", "bottom"] fd)  : FnOk P w K mg base (L2.CX P w) 1 (He.fAd K d_lowest.at_) fd ["top", "bottom"] (toSp K (tbOf K tq) 2 (spF K lowest_W)) := by
  refine fn_F (k := 0) none L F1 lowest_S lowest_W noneNo (fun _ => rfl) ?_
  intro z t Q E h ye tbl
  obtain ⟨top1, bottom2, ⟨⟩⟩ := t
  show Ws _ (⟨[some (pu top1), some (pu bottom2), none, none], []⟩ : DSt) _ _
  refine s_par (R := fun (a3 : Int) (b4 : Int) => (lowest_w3 top1 bottom2 a3 b4 Q)) 2 3 ye.ok rfl rfl (c_v 0 rfl rfl) (c_v 1 rfl rfl) ?_ (by exact h)
  intro a3 b4 h
  try dsimp only
  show Ws _ (⟨[some (pu top1), some (pu bottom2), some (pu a3), some (pu b4)], []⟩ : DSt) _ _
  refine s_while (Z := Int × Int) (J := Unit) (Cond := (fun (z5 : Int × Int) (k10 : Bool → Prop) => k10 (decide (z5.2 ≠ (0 : Int))))) (Body := (fun (z5 : Int × Int) (nx7 : Int × Int → Prop) => (lowest_w1 nx7 z5.1 z5.2))) (Rest := (fun (z13 : Int × Int) => (lowest_w2 top1 bottom2 z13.1 Q))) (fun (z5 : Int × Int) (j6 : Unit) => (⟨[some (pu top1), some (pu bottom2), some (pu (z5.1 : Int)), some (pu (z5.2 : Int))], []⟩ : DSt)) (a3, b4) () ye.ok rfl (fun z5 j6 => (t_k (k_ne ye.ok (c_v 3 rfl rfl) c_int))) ?_ ?_ (by exact h)
  · intro z5 j6 nx7 h
    try dsimp only
    obtain ⟨a8, b9⟩ := z5
    show Ws _ (⟨[some (pu top1), some (pu bottom2), some (pu a8), some (pu b9)], []⟩ : DSt) _ _
    refine s_par (R := fun (a11 : Int) (b12 : Int) => nx7 (a11, b12)) 2 3 ye.ok rfl rfl (c_v 3 rfl rfl) (c_mod (c_v 2 rfl rfl) (c_v 3 rfl rfl)) ?_ (by exact h)
    intro a11 b12 h
    try dsimp only
    show Ws _ (⟨[some (pu top1), some (pu bottom2), some (pu a11), some (pu b12)], []⟩ : DSt) _ _
    exact ws_nil ⟨(a11, b12), (), rfl, h⟩
  intro z13 j14 h
  try dsimp only
  obtain ⟨a15, b16⟩ := z13
  show Ws _ (⟨[some (pu top1), some (pu bottom2), some (pu a15), some (pu b16)], []⟩ : DSt) _ _
  refine s_ret (R := fun (v17 : (Int × Int)) => Q v17) (c_ifP (u := ((top1 / a15), (bottom2 / a15))) (w := (top1, bottom2)) (t_k (k_ne ye.ok (c_v 2 rfl rfl) c_int)) (c_tup2 (a_cons (c_fdiv (c_v 0 rfl rfl) (c_v 2 rfl rfl)) (a_cons (c_fdiv (c_v 1 rfl rfl) (c_v 2 rfl rfl)) a_nil))) (c_tup2 (a_cons (c_v 0 rfl rfl) (a_cons (c_v 1 rfl rfl) a_nil)))) (by exact h) ?_
  intro v17 h
  try dsimp only
  exact ⟨⟨0, rfl⟩, _, rfl, h⟩
abbrev Counts_chance_N : List Str := ["self", "word", "top", "bottom", "start", "sign", "a", "b"]
theorem Counts_chance_S : FnScope Counts_chance_N ["self", "word"] d_Counts_chance.scope := ⟨rfl, rfl, rfl, by decide +kernel, rfl, by decide +kernel, by decide +kernel⟩
theorem ok_Counts_chance (B : Bis mg) (L : LK w K mg base fa fn tq) {fd : FuncData} (F1 : Fd K d_Counts_chance ["self", "word"] fd) (G_Counts_steps_along : Mt P w K mg base (tbOf K tq) 1 (He.ga K "Counts") "steps_along" ["self", "word"] (spF K Counts_steps_along_W)) (G_Counts_share : Mt P w K mg base (tbOf K tq) 1 (He.ga K "Counts") "share" ["self", "start", "sign"] (spF K Counts_share_W)) (G_lowest : Df P w K mg base (tbOf K tq) 1 "lowest" ["top", "bottom"] (spF K lowest_W)) : FnOk P w K mg base (L2.CX P w) 2 (He.fAd K d_Counts_chance.at_) fd ["self", "word"] (toSp K (tbOf K tq) 2 (spF K Counts_chance_W)) := by
  refine fn_F (k := 1) none L F1 Counts_chance_S Counts_chance_W noneNo (fun _ => rfl) ?_
  intro z t Q E h ye tbl
  obtain ⟨self1, word2, ⟨⟩⟩ := t
  show Ws _ (⟨[some (pu self1), some (pu word2), none, none, none, none, none, none], []⟩ : DSt) _ _
  refine s_asgT (R := fun (u3 : (Int × Int)) => (Counts_chance_w5 self1 word2 u3 Q E)) (.p (.n 2) (.n 3)) (tg_pair ye.ok.calm (tg_nm ye.ok.nd 2 rfl) (tg_nm ye.ok.nd 3 rfl)) (c_tup2 (a_cons c_int (a_cons c_int a_nil))) ?_ (by exact h)
  intro u3 h
  try dsimp only
  show Ws _ (⟨[some (pu self1), some (pu word2), some (pu u3.1), some (pu u3.2), none, none, none, none], []⟩ : DSt) _ _
  refine s_for (Z := Int × Int) (J := Option Pv × Option Pv × Option Pv × Option Pv) (Body := (fun (x5 : (Txt × Txt)) (z6 : Int × Int) (nx8 : Int × Int → Prop) => (Counts_chance_w3 self1 x5 nx8 z6.1 z6.2 Q E))) (Rest := (fun (z16 : Int × Int) => (Counts_chance_w4 z16.1 z16.2 Q))) (.p (.n 4) (.n 5)) (fun (z6 : Int × Int) (j7 : Option Pv × Option Pv × Option Pv × Option Pv) => (⟨[some (pu self1), some (pu word2), some (pu (z6.1 : Int)), some (pu (z6.2 : Int)), j7.1, j7.2.1, j7.2.2.1, j7.2.2.2], []⟩ : DSt)) (u3.1, u3.2) (none, none, none, none) ye.ok (i_tup (c_meth (w := Counts_steps_along_W) 0 ye G_Counts_steps_along (He.cls_ok (L.d.fact 49 rfl)) (Nat.le_of_ble_eq_true rfl) (c_v 0 rfl rfl) (a_cons (c_v 1 rfl rfl) a_nil) (fun _ => rfl) rfl)) (tg_pair ye.ok.calm (tg_nm ye.ok.nd 4 rfl) (tg_nm ye.ok.nd 5 rfl)) rfl ?_ ?_ (by exact h)
  · intro x5 z6 j7 nx8 h
    try dsimp only
    obtain ⟨top9, bottom10⟩ := z6
    show Ws _ (⟨[some (pu self1), some (pu word2), some (pu top9), some (pu bottom10), some (pu x5.1), some (pu x5.2), j7.2.2.1, j7.2.2.2], []⟩ : DSt) _ _
    refine s_asgT (R := fun (u12 : (Int × Int)) => (Counts_chance_w2 nx8 top9 bottom10 u12 Q E)) (.p (.n 6) (.n 7)) (tg_pair ye.ok.calm (tg_nm ye.ok.nd 6 rfl) (tg_nm ye.ok.nd 7 rfl)) (c_meth (w := Counts_share_W) 0 ye G_Counts_share (He.cls_ok (L.d.fact 49 rfl)) (Nat.le_of_ble_eq_true rfl) (c_v 0 rfl rfl) (a_cons (c_v 4 rfl rfl) (a_cons (c_v 5 rfl rfl) a_nil)) (fun _ => rfl) rfl) ?_ (by exact h)
    intro u12 h
    try dsimp only
    show Ws _ (⟨[some (pu self1), some (pu word2), some (pu top9), some (pu bottom10), some (pu x5.1), some (pu x5.2), some (pu u12.1), some (pu u12.2)], []⟩ : DSt) _ _
    refine s_if (B := Q ((0 : Int), (1 : Int))) (C := (Counts_chance_w1 nx8 top9 bottom10 u12 E)) (t_k (k_eq ye.ok (c_v 6 rfl rfl) c_int)) ?_ ?_ (by exact h)
    · intro h
      refine s_ret (R := fun (v13 : (Int × Int)) => Q v13) (c_tup2 (a_cons c_int (a_cons c_int a_nil))) (by exact h) ?_
      intro v13 h
      try dsimp only
      exact ⟨⟨0, rfl⟩, _, rfl, h⟩
    intro h
    refine ws_nil ?_
    refine s_asgT (R := fun (u15 : (Int × Int)) => nx8 (u15.1, u15.2)) (.p (.n 2) (.n 3)) (tg_pair ye.ok.calm (tg_nm ye.ok.nd 2 rfl) (tg_nm ye.ok.nd 3 rfl)) (c_call (w := lowest_W) 0 ye G_lowest (Nat.le_of_ble_eq_true rfl) rfl (a_cons (c_mul (c_v 2 rfl rfl) (c_v 6 rfl rfl)) (a_cons (c_mul (c_v 3 rfl rfl) (c_v 7 rfl rfl)) a_nil)) (fun _ => rfl) rfl) ?_ (by exact h)
    intro u15 h
    try dsimp only
    show Ws _ (⟨[some (pu self1), some (pu word2), some (pu u15.1), some (pu u15.2), some (pu x5.1), some (pu x5.2), some (pu u12.1), some (pu u12.2)], []⟩ : DSt) _ _
    exact ws_nil ⟨(u15.1, u15.2), (some (pu x5.1), some (pu x5.2), some (pu u12.1), some (pu u12.2)), rfl, h⟩
  intro z16 j17 h
  try dsimp only
  obtain ⟨top18, bottom19⟩ := z16
  show Ws _ (⟨[some (pu self1), some (pu word2), some (pu top18), some (pu bottom19), j17.1, j17.2.1, j17.2.2.1, j17.2.2.2], []⟩ : DSt) _ _
  refine s_ret (R := fun (v20 : (Int × Int)) => Q v20) (c_tup2 (a_cons (c_v 2 rfl rfl) (a_cons (c_v 3 rfl rfl) a_nil))) (by exact h) ?_
  intro v20 h
  try dsimp only
  exact ⟨⟨0, rfl⟩, _, rfl, h⟩
abbrev Counts_smooth_chance_N : List Str := ["self", "word", "top", "bottom", "start", "sign", "a", "b"]
theorem Counts_smooth_chance_S : FnScope Counts_smooth_chance_N ["self", "word"] d_Counts_smooth_chance.scope := ⟨rfl, rfl, rfl, by decide +kernel, rfl, by decide +kernel, by decide +kernel⟩
theorem ok_Counts_smooth_chance (B : Bis mg) (L : LK w K mg base fa fn tq) {fd : FuncData} (F1 : Fd K d_Counts_smooth_chance ["self", "word"] fd) (G_Counts_steps_along : Mt P w K mg base (tbOf K tq) 1 (He.ga K "Counts") "steps_along" ["self", "word"] (spF K Counts_steps_along_W)) (G_Counts_smooth : Mt P w K mg base (tbOf K tq) 2 (He.ga K "Counts") "smooth" ["self", "start", "sign"] (spF K Counts_smooth_W)) (G_lowest : Df P w K mg base (tbOf K tq) 1 "lowest" ["top", "bottom"] (spF K lowest_W)) : FnOk P w K mg base (L2.CX P w) 3 (He.fAd K d_Counts_smooth_chance.at_) fd ["self", "word"] (toSp K (tbOf K tq) 2 (spF K Counts_smooth_chance_W)) := by
  refine fn_F (k := 2) none L F1 Counts_smooth_chance_S Counts_smooth_chance_W noneNo (fun _ => rfl) ?_
  intro z t Q E h ye tbl
  obtain ⟨self1, word2, ⟨⟩⟩ := t
  show Ws _ (⟨[some (pu self1), some (pu word2), none, none, none, none, none, none], []⟩ : DSt) _ _
  refine s_asgT (R := fun (u3 : (Int × Int)) => (Counts_smooth_chance_w4 self1 word2 u3 Q E)) (.p (.n 2) (.n 3)) (tg_pair ye.ok.calm (tg_nm ye.ok.nd 2 rfl) (tg_nm ye.ok.nd 3 rfl)) (c_tup2 (a_cons c_int (a_cons c_int a_nil))) ?_ (by exact h)
  intro u3 h
  try dsimp only
  show Ws _ (⟨[some (pu self1), some (pu word2), some (pu u3.1), some (pu u3.2), none, none, none, none], []⟩ : DSt) _ _
  refine s_for (Z := Int × Int) (J := Option Pv × Option Pv × Option Pv × Option Pv) (Body := (fun (x5 : (Txt × Txt)) (z6 : Int × Int) (nx8 : Int × Int → Prop) => (Counts_smooth_chance_w2 self1 x5 nx8 z6.1 z6.2 E))) (Rest := (fun (z15 : Int × Int) => (Counts_smooth_chance_w3 z15.1 z15.2 Q))) (.p (.n 4) (.n 5)) (fun (z6 : Int × Int) (j7 : Option Pv × Option Pv × Option Pv × Option Pv) => (⟨[some (pu self1), some (pu word2), some (pu (z6.1 : Int)), some (pu (z6.2 : Int)), j7.1, j7.2.1, j7.2.2.1, j7.2.2.2], []⟩ : DSt)) (u3.1, u3.2) (none, none, none, none) ye.ok (i_tup (c_meth (w := Counts_steps_along_W) 0 ye G_Counts_steps_along (He.cls_ok (L.d.fact 49 rfl)) (Nat.le_of_ble_eq_true rfl) (c_v 0 rfl rfl) (a_cons (c_v 1 rfl rfl) a_nil) (fun _ => rfl) rfl)) (tg_pair ye.ok.calm (tg_nm ye.ok.nd 4 rfl) (tg_nm ye.ok.nd 5 rfl)) rfl ?_ ?_ (by exact h)
  · intro x5 z6 j7 nx8 h
    try dsimp only
    obtain ⟨top9, bottom10⟩ := z6
    show Ws _ (⟨[some (pu self1), some (pu word2), some (pu top9), some (pu bottom10), some (pu x5.1), some (pu x5.2), j7.2.2.1, j7.2.2.2], []⟩ : DSt) _ _
    refine s_asgT (R := fun (u12 : (Int × Int)) => (Counts_smooth_chance_w1 nx8 top9 bottom10 u12 E)) (.p (.n 6) (.n 7)) (tg_pair ye.ok.calm (tg_nm ye.ok.nd 6 rfl) (tg_nm ye.ok.nd 7 rfl)) (c_meth (w := Counts_smooth_W) 0 ye G_Counts_smooth (He.cls_ok (L.d.fact 49 rfl)) (Nat.le_of_ble_eq_true rfl) (c_v 0 rfl rfl) (a_cons (c_v 4 rfl rfl) (a_cons (c_v 5 rfl rfl) a_nil)) (fun _ => rfl) rfl) ?_ (by exact h)
    intro u12 h
    try dsimp only
    show Ws _ (⟨[some (pu self1), some (pu word2), some (pu top9), some (pu bottom10), some (pu x5.1), some (pu x5.2), some (pu u12.1), some (pu u12.2)], []⟩ : DSt) _ _
    refine s_asgT (R := fun (u14 : (Int × Int)) => nx8 (u14.1, u14.2)) (.p (.n 2) (.n 3)) (tg_pair ye.ok.calm (tg_nm ye.ok.nd 2 rfl) (tg_nm ye.ok.nd 3 rfl)) (c_call (w := lowest_W) 0 ye G_lowest (Nat.le_of_ble_eq_true rfl) rfl (a_cons (c_mul (c_v 2 rfl rfl) (c_v 6 rfl rfl)) (a_cons (c_mul (c_v 3 rfl rfl) (c_v 7 rfl rfl)) a_nil)) (fun _ => rfl) rfl) ?_ (by exact h)
    intro u14 h
    try dsimp only
    show Ws _ (⟨[some (pu self1), some (pu word2), some (pu u14.1), some (pu u14.2), some (pu x5.1), some (pu x5.2), some (pu u12.1), some (pu u12.2)], []⟩ : DSt) _ _
    exact ws_nil ⟨(u14.1, u14.2), (some (pu x5.1), some (pu x5.2), some (pu u12.1), some (pu u12.2)), rfl, h⟩
  intro z15 j16 h
  try dsimp only
  obtain ⟨top17, bottom18⟩ := z15
  show Ws _ (⟨[some (pu self1), some (pu word2), some (pu top17), some (pu bottom18), j16.1, j16.2.1, j16.2.2.1, j16.2.2.2], []⟩ : DSt) _ _
  refine s_ret (R := fun (v19 : (Int × Int)) => Q v19) (c_tup2 (a_cons (c_v 2 rfl rfl) (a_cons (c_v 3 rfl rfl) a_nil))) (by exact h) ?_
  intro v19 h
  try dsimp only
  exact ⟨⟨0, rfl⟩, _, rfl, h⟩
abbrev Counts_likelier_N : List Str := ["self", "one", "other", "a", "b"]
theorem Counts_likelier_S : FnScope Counts_likelier_N ["self", "one", "other"] d_Counts_likelier.scope := ⟨rfl, rfl, rfl, by decide +kernel, rfl, by decide +kernel, by decide +kernel⟩
theorem ok_Counts_likelier (B : Bis mg) (L : LK w K mg base fa fn tq) {fd : FuncData} (F1 : Fd K d_Counts_likelier ["self", "one", "other"] fd) (G_Counts_smooth_chance : Mt P w K mg base (tbOf K tq) 3 (He.ga K "Counts") "smooth_chance" ["self", "word"] (spF K Counts_smooth_chance_W)) : FnOk P w K mg base (L2.CX P w) 4 (He.fAd K d_Counts_likelier.at_) fd ["self", "one", "other"] (toSp K (tbOf K tq) 3 (spF K Counts_likelier_W)) := by
  refine fn_F (k := 3) none L F1 Counts_likelier_S Counts_likelier_W noneNo (fun _ => rfl) ?_
  intro z t Q E h ye tbl
  obtain ⟨self1, one2, other3, ⟨⟩⟩ := t
  show Ws _ (⟨[some (pu self1), some (pu one2), some (pu other3), none, none], []⟩ : DSt) _ _
  refine s_par (R := fun (a6 : (Int × Int)) (b7 : (Int × Int)) => (Counts_likelier_w1 one2 other3 a6 b7 Q)) 3 4 ye.ok rfl rfl (c_meth (w := Counts_smooth_chance_W) 0 ye G_Counts_smooth_chance (He.cls_ok (L.d.fact 49 rfl)) (Nat.le_of_ble_eq_true rfl) (c_v 0 rfl rfl) (a_cons (c_v 1 rfl rfl) a_nil) (fun _ => rfl) rfl) (c_meth (w := Counts_smooth_chance_W) 0 ye G_Counts_smooth_chance (He.cls_ok (L.d.fact 49 rfl)) (Nat.le_of_ble_eq_true rfl) (c_v 0 rfl rfl) (a_cons (c_v 2 rfl rfl) a_nil) (fun _ => rfl) rfl) ?_ (by exact h)
  intro a6 b7 h
  try dsimp only
  show Ws _ (⟨[some (pu self1), some (pu one2), some (pu other3), some (pu a6), some (pu b7)], []⟩ : DSt) _ _
  refine s_ret (R := fun (v8 : Txt) => Q v8) (c_ifP (u := other3) (w := one2) (t_k (k_gt (c_mul (c_fst (c_v 4 rfl rfl)) (c_snd (c_v 3 rfl rfl))) (c_mul (c_fst (c_v 3 rfl rfl)) (c_snd (c_v 4 rfl rfl))))) (c_v 2 rfl rfl) (c_v 1 rfl rfl)) (by exact h) ?_
  intro v8 h
  try dsimp only
  exact ⟨⟨0, rfl⟩, _, rfl, h⟩
abbrev Counts_next_letters_N : List Str := ["self", "start", "text", "run", "rows", "row"]
theorem Counts_next_letters_S : FnScope Counts_next_letters_N ["self", "start"] d_Counts_next_letters.scope := ⟨rfl, rfl, rfl, by decide +kernel, rfl, by decide +kernel, by decide +kernel⟩
theorem ok_Counts_next_letters (B : Bis mg) (L : LK w K mg base fa fn tq) {fd : FuncData} (F1 : Fd K d_Counts_next_letters ["self", "start"] fd)  : FnOk P w K mg base (L2.CX P w) 4 (He.fAd K d_Counts_next_letters.at_) fd ["self", "start"] (toSp K (tbOf K tq) 2 (spF K Counts_next_letters_W)) := by
  refine fn_F (k := 3) none L F1 Counts_next_letters_S Counts_next_letters_W noneNo (fun _ => rfl) ?_
  intro z t Q E h ye tbl
  obtain ⟨self1, start2, ⟨⟩⟩ := t
  show Ws _ (⟨[some (pu self1), some (pu start2), none, none, none, none], []⟩ : DSt) _ _
  refine s_asg (R := fun (text3 : Txt) => (Counts_next_letters_w3 self1 text3 Q)) 2 ye.ok rfl (c_catS (c_mulS (c_gs rfl (He.str_ok L.X L.G (L.d.fact 48 rfl))) (c_sub (c_fld CountsV.size (He.cls_ok (L.d.fact 49 rfl)) (He.noat_ok (L.d.fact 51 rfl)) (c_v 0 rfl rfl)) c_int)) (c_v 1 rfl rfl)) ?_ (by exact h)
  intro text3 h
  try dsimp only
  show Ws _ (⟨[some (pu self1), some (pu start2), some (pu text3), none, none, none], []⟩ : DSt) _ _
  refine s_asg (R := fun (run4 : Txt) => (Counts_next_letters_w2 self1 run4 Q)) 3 ye.ok rfl (c_slS (c_v 2 rfl rfl) (o_at (c_add (c_sub (c_lenS B (by rfl) (c_v 2 rfl rfl)) (c_fld CountsV.size (He.cls_ok (L.d.fact 49 rfl)) (He.noat_ok (L.d.fact 51 rfl)) (c_v 0 rfl rfl))) c_int)) o_no) ?_ (by exact h)
  intro run4 h
  try dsimp only
  show Ws _ (⟨[some (pu self1), some (pu start2), some (pu text3), some (pu run4), none, none], []⟩ : DSt) _ _
  refine s_asg (R := fun (rows5 : (Dct Txt Int)) => (Counts_next_letters_w1 rows5 Q)) 4 ye.ok rfl (c_dget2 ye.ok (c_d (c_fld CountsV.rows (He.cls_ok (L.d.fact 49 rfl)) (He.noat_ok (L.d.fact 52 rfl)) (c_v 0 rfl rfl))) (c_v 3 rfl rfl) (c_dnew (κ := Txt) (ν := Int))) ?_ (by exact h)
  intro rows5 h
  try dsimp only
  show Ws _ (⟨[some (pu self1), some (pu start2), some (pu text3), some (pu run4), some (pu rows5), none], []⟩ : DSt) _ _
  refine s_ret (R := fun (v7 : (Tup (Txt × Int))) => Q v7) (c_tupL B (by rfl) (c_l (c_sortedK (x := "row") 0 [5] 5 (fun (x6 : (Txt × Int)) => (((0 : Int) - x6.2), x6.1)) ye.ok B (by rfl) (Nat.le_of_ble_eq_true rfl) (k_items ye.ok (c_d (c_v 4 rfl rfl))) (.pl (tbl _ (List.mem_of_getElem? (i := 1) rfl))) (show ParOk Counts_next_letters_N d_Counts_next_letters.scope _ _ _ _ from parOk_by (by decide +kernel)) nox_nil (fun _ _ o (x6 : (Txt × Int)) => (c_tup2 (a_cons (c_sub c_int (c_snd (c_v 5 rfl rfl))) (a_cons (c_fst (c_v 5 rfl rfl)) a_nil))))))) (by exact h) ?_
  intro v7 h
  try dsimp only
  exact ⟨⟨0, rfl⟩, _, rfl, h⟩
abbrev Counts_likeliest_N : List Str := ["self", "most", "word", "k", "rows", "letter"]
theorem Counts_likeliest_S : FnScope Counts_likeliest_N ["self", "most"] d_Counts_likeliest.scope := ⟨rfl, rfl, rfl, by decide +kernel, rfl, by decide +kernel, by decide +kernel⟩
theorem ok_Counts_likeliest (B : Bis mg) (L : LK w K mg base fa fn tq) {fd : FuncData} (F1 : Fd K d_Counts_likeliest ["self", "most"] fd) (G_Counts_next_letters : Mt P w K mg base (tbOf K tq) 4 (He.ga K "Counts") "next_letters" ["self", "start"] (spF K Counts_next_letters_W)) : FnOk P w K mg base (L2.CX P w) 5 (He.fAd K d_Counts_likeliest.at_) fd ["self", "most"] (toSp K (tbOf K tq) 2 (spF K Counts_likeliest_W)) := by
  refine fn_F (k := 4) none L F1 Counts_likeliest_S Counts_likeliest_W noneNo (fun _ => rfl) ?_
  intro z t Q E h ye tbl
  obtain ⟨self1, most2, ⟨⟩⟩ := t
  show Ws _ (⟨[some (pu self1), some (pu most2), none, none, none, none], []⟩ : DSt) _ _
  refine s_asg (R := fun (word3 : Txt) => (Counts_likeliest_w6 self1 most2 word3 Q E)) 2 ye.ok rfl c_tx ?_ (by exact h)
  intro word3 h
  try dsimp only
  show Ws _ (⟨[some (pu self1), some (pu most2), some (pu word3), none, none, none], []⟩ : DSt) _ _
  refine s_for (Z := Txt) (J := Option Pv × Option Pv × Option Pv) (Body := (fun (x4 : Int) (z5 : Txt) (nx7 : Txt → Prop) => (Counts_likeliest_w4 self1 nx7 z5 Q E))) (Rest := (fun (z14 : Txt) => (Counts_likeliest_w5 E))) (.n 3) (fun (z5 : Txt) (j6 : Option Pv × Option Pv × Option Pv) => (⟨[some (pu self1), some (pu most2), some (pu (z5 : Txt)), j6.1, j6.2.1, j6.2.2], []⟩ : DSt)) word3 (none, none, none) ye.ok (i_range1 ye.ok B (by rfl) (c_add (c_v 1 rfl rfl) c_int)) (tg_nm ye.ok.nd 3 rfl) rfl ?_ ?_ (by exact h)
  · intro x4 word8 j6 nx7 h
    try dsimp only
    show Ws _ (⟨[some (pu self1), some (pu most2), some (pu word8), some (pu x4), j6.2.1, j6.2.2], []⟩ : DSt) _ _
    refine s_asg (R := fun (rows10 : (Tup (Txt × Int))) => (Counts_likeliest_w3 nx7 word8 rows10 Q E)) 4 ye.ok rfl (c_meth (w := Counts_next_letters_W) 0 ye G_Counts_next_letters (He.cls_ok (L.d.fact 49 rfl)) (Nat.le_of_ble_eq_true rfl) (c_v 0 rfl rfl) (a_cons (c_v 2 rfl rfl) a_nil) (fun _ => rfl) rfl) ?_ (by exact h)
    intro rows10 h
    try dsimp only
    show Ws _ (⟨[some (pu self1), some (pu most2), some (pu word8), some (pu x4), some (pu rows10), j6.2.2], []⟩ : DSt) _ _
    refine s_if (B := E .NoWay) (C := (Counts_likeliest_w2 nx7 word8 rows10 Q)) (t_k (k_eq ye.ok (c_v 4 rfl rfl) (c_tupH (s_nil (α := (Txt × Int)))))) ?_ ?_ (by exact h)
    · intro h
      exact s_raise 0 .NoWay ye (L.err 72 25) rfl rfl rfl (by exact h)
    intro h
    refine ws_nil ?_
    refine s_asg (R := fun (letter11 : Txt) => (Counts_likeliest_w1 nx7 word8 letter11 Q)) 5 ye.ok rfl (c_fst (c_ixH (c_v 4 rfl rfl) c_int)) ?_ (by exact h)
    intro letter11 h
    try dsimp only
    show Ws _ (⟨[some (pu self1), some (pu most2), some (pu word8), some (pu x4), some (pu rows10), some (pu letter11)], []⟩ : DSt) _ _
    refine s_if (B := Q word8) (C := (word8.length + letter11.length ≤ sizeLine ∧ nx7 (word8 ++ letter11))) (t_k (k_eq ye.ok (c_v 5 rfl rfl) (c_gs rfl (He.str_ok L.X L.G (L.d.fact 48 rfl))))) ?_ ?_ (by exact h)
    · intro h
      refine s_ret (R := fun (v12 : Txt) => Q v12) (c_v 2 rfl rfl) (by exact h) ?_
      intro v12 h
      try dsimp only
      exact ⟨⟨0, rfl⟩, _, rfl, h⟩
    intro h
    refine ws_nil ?_
    refine s_augS (R := fun (word13 : Txt) => nx7 word13) 2 ye.ok rfl rfl (c_v 5 rfl rfl) ?_ (by exact h)
    intro word13 h
    try dsimp only
    show Ws _ (⟨[some (pu self1), some (pu most2), some (pu word13), some (pu x4), some (pu rows10), some (pu letter11)], []⟩ : DSt) _ _
    exact ws_nil ⟨word13, (some (pu x4), some (pu rows10), some (pu letter11)), rfl, h⟩
  intro word16 j15 h
  try dsimp only
  show Ws _ (⟨[some (pu self1), some (pu most2), some (pu word16), j15.1, j15.2.1, j15.2.2], []⟩ : DSt) _ _
  exact s_raise 0 .NoWay ye (L.err 72 25) rfl rfl rfl (by exact h)
abbrev Counts_strangest_N : List Str := ["self", "word", "shares", "start", "sign", "best", "k", "top", "bottom"]
theorem Counts_strangest_S : FnScope Counts_strangest_N ["self", "word"] d_Counts_strangest.scope := ⟨rfl, rfl, rfl, by decide +kernel, rfl, by decide +kernel, by decide +kernel⟩
theorem ok_Counts_strangest (B : Bis mg) (L : LK w K mg base fa fn tq) {fd : FuncData} (F1 : Fd K d_Counts_strangest ["self", "word"] fd) (G_Counts_steps_along : Mt P w K mg base (tbOf K tq) 1 (He.ga K "Counts") "steps_along" ["self", "word"] (spF K Counts_steps_along_W)) (G_Counts_smooth : Mt P w K mg base (tbOf K tq) 2 (He.ga K "Counts") "smooth" ["self", "start", "sign"] (spF K Counts_smooth_W)) : FnOk P w K mg base (L2.CX P w) 3 (He.fAd K d_Counts_strangest.at_) fd ["self", "word"] (toSp K (tbOf K tq) 2 (spF K Counts_strangest_W)) := by
  refine fn_F (k := 2) none L F1 Counts_strangest_S Counts_strangest_W noneNo (fun _ => rfl) ?_
  intro z t Q E h ye tbl
  obtain ⟨self1, word2, ⟨⟩⟩ := t
  show Ws _ (⟨[some (pu self1), some (pu word2), none, none, none, none, none, none, none], []⟩ : DSt) _ _
  refine s_asgL (R := fun (shares7 : (List (Int × Int))) => (Counts_strangest_w4 shares7 (0 : Int) Q)) 2 ye.ok rfl (l_lcX0 (.p (.n 3) (.n 4)) [("start", 3), ("sign", 4)] ye.ok (i_tup (c_meth (w := Counts_steps_along_W) 0 ye G_Counts_steps_along (He.cls_ok (L.d.fact 49 rfl)) (Nat.le_of_ble_eq_true rfl) (c_v 0 rfl rfl) (a_cons (c_v 1 rfl rfl) a_nil) (fun _ => rfl) rfl)) (show BlkOk Counts_strangest_N d_Counts_strangest.scope _ _ from blk_by (by decide +kernel)) (fun z => (tg_pair ye.ok.blk.calm (tg_blk ye.ok z 3 rfl) (tg_blk ye.ok z 4 rfl))) (fun _ (x4 : (Txt × Txt)) _ _ => (c_meth (w := Counts_smooth_W) 0 ye.blk G_Counts_smooth (He.cls_ok (L.d.fact 49 rfl)) (Nat.le_of_ble_eq_true rfl) (c_v 0 rfl rfl) (a_cons (c_v 3 rfl rfl) (a_cons (c_v 4 rfl rfl) a_nil)) (fun _ => rfl) trivial))) ?_ (by exact h)
  intro shares7 h
  try dsimp only
  show Ws _ (⟨[some (pu self1), some (pu word2), some (pu shares7), none, none, none, none, none, none], []⟩ : DSt) _ _
  refine s_asg (R := fun (best8 : Int) => (Counts_strangest_w4 shares7 best8 Q)) 5 ye.ok rfl c_int ?_ (by exact h)
  intro best8 h
  try dsimp only
  show Ws _ (⟨[some (pu self1), some (pu word2), some (pu shares7), none, none, some (pu best8), none, none, none], []⟩ : DSt) _ _
  refine s_for (Z := Int) (J := Option Pv × Option Pv × Option Pv) (Body := (fun (x9 : (Int × (Int × Int))) (z10 : Int) (nx12 : Int → Prop) => (Counts_strangest_w2 shares7 x9 nx12 z10))) (Rest := (fun (z19 : Int) => (Counts_strangest_w3 z19 Q))) (.p (.n 6) (.p (.n 7) (.n 8))) (fun (z10 : Int) (j11 : Option Pv × Option Pv × Option Pv) => (⟨[some (pu self1), some (pu word2), some (pu shares7), none, none, some (pu (z10 : Int)), j11.1, j11.2.1, j11.2.2], []⟩ : DSt)) best8 (none, none, none) ye.ok (i_enum ye.ok B (by rfl) (c_v 2 rfl rfl)) (tg_pair ye.ok.calm (tg_nm ye.ok.nd 6 rfl) (tg_pair ye.ok.calm (tg_nm ye.ok.nd 7 rfl) (tg_nm ye.ok.nd 8 rfl))) rfl ?_ ?_ (by exact h)
  · intro x9 best13 j11 nx12 h
    try dsimp only
    show Ws _ (⟨[some (pu self1), some (pu word2), some (pu shares7), none, none, some (pu best13), some (pu x9.1), some (pu x9.2.1), some (pu x9.2.2)], []⟩ : DSt) _ _
    refine s_ifJ (Z := Int) (J := Unit) (Rest := (fun (z14 : Int) => (Counts_strangest_w1 nx12 z14))) (B := fun nx16 => nx16 x9.1) (C := fun nx16 => nx16 best13) (fun (z14 : Int) (j15 : Unit) => (⟨[some (pu self1), some (pu word2), some (pu shares7), none, none, some (pu (z14 : Int)), some (pu x9.1), some (pu x9.2.1), some (pu x9.2.2)], []⟩ : DSt)) (t_k (k_lt (c_mul (c_v 7 rfl rfl) (c_snd (c_ixL (c_l (c_v 2 rfl rfl)) (c_v 5 rfl rfl)))) (c_mul (c_fst (c_ixL (c_l (c_v 2 rfl rfl)) (c_v 5 rfl rfl))) (c_v 8 rfl rfl)))) ?_ ?_ ?_ (by exact h)
    · intro nx16 h
      try dsimp only
      refine s_asg (R := fun (best17 : Int) => nx16 best17) 5 ye.ok rfl (c_v 6 rfl rfl) ?_ (by exact h)
      intro best17 h
      try dsimp only
      show Ws _ (⟨[some (pu self1), some (pu word2), some (pu shares7), none, none, some (pu best17), some (pu x9.1), some (pu x9.2.1), some (pu x9.2.2)], []⟩ : DSt) _ _
      exact ws_nil ⟨best17, (), rfl, h⟩
    · intro nx16 h
      try dsimp only
      exact ws_nil ⟨best13, (), rfl, h⟩
    intro best18 j15 h
    try dsimp only
    show Ws _ (⟨[some (pu self1), some (pu word2), some (pu shares7), none, none, some (pu best18), some (pu x9.1), some (pu x9.2.1), some (pu x9.2.2)], []⟩ : DSt) _ _
    exact ws_nil ⟨best18, (some (pu x9.1), some (pu x9.2.1), some (pu x9.2.2)), rfl, h⟩
  intro best21 j20 h
  try dsimp only
  show Ws _ (⟨[some (pu self1), some (pu word2), some (pu shares7), none, none, some (pu best21), j20.1, j20.2.1, j20.2.2], []⟩ : DSt) _ _
  refine s_ret (R := fun (v22 : Int) => Q v22) (c_v 5 rfl rfl) (by exact h) ?_
  intro v22 h
  try dsimp only
  exact ⟨⟨0, rfl⟩, _, rfl, h⟩
abbrev Counts_unseen_N : List Str := ["self", "word", "k", "start", "sign"]
theorem Counts_unseen_S : FnScope Counts_unseen_N ["self", "word"] d_Counts_unseen.scope := ⟨rfl, rfl, rfl, by decide +kernel, rfl, by decide +kernel, by decide +kernel⟩
theorem ok_Counts_unseen (B : Bis mg) (L : LK w K mg base fa fn tq) {fd : FuncData} (F1 : Fd K d_Counts_unseen ["self", "word"] fd) (G_Counts_steps_along : Mt P w K mg base (tbOf K tq) 1 (He.ga K "Counts") "steps_along" ["self", "word"] (spF K Counts_steps_along_W)) (G_Counts_share : Mt P w K mg base (tbOf K tq) 1 (He.ga K "Counts") "share" ["self", "start", "sign"] (spF K Counts_share_W)) : FnOk P w K mg base (L2.CX P w) 2 (He.fAd K d_Counts_unseen.at_) fd ["self", "word"] (toSp K (tbOf K tq) 2 (spF K Counts_unseen_W)) := by
  refine fn_F (k := 1) none L F1 Counts_unseen_S Counts_unseen_W noneNo (fun _ => rfl) ?_
  intro z t Q E h ye tbl
  obtain ⟨self1, word2, ⟨⟩⟩ := t
  show Ws _ (⟨[some (pu self1), some (pu word2), none, none, none], []⟩ : DSt) _ _
  refine s_ret (R := fun (v8 : (Tup Int)) => Q v8) (c_tupL B (by rfl) (c_l (c_L ye.ok (l_lcX (.p (.n 2) (.p (.n 3) (.n 4))) [("k", 2), ("start", 3), ("sign", 4)] ye.ok (i_enumH ye.ok B (by rfl) (c_meth (w := Counts_steps_along_W) 0 ye G_Counts_steps_along (He.cls_ok (L.d.fact 49 rfl)) (Nat.le_of_ble_eq_true rfl) (c_v 0 rfl rfl) (a_cons (c_v 1 rfl rfl) a_nil) (fun _ => rfl) rfl)) (show BlkOk Counts_unseen_N d_Counts_unseen.scope _ _ from blk_by (by decide +kernel)) (fun z => (tg_pair ye.ok.blk.calm (tg_blk ye.ok z 2 rfl) (tg_pair ye.ok.blk.calm (tg_blk ye.ok z 3 rfl) (tg_blk ye.ok z 4 rfl)))) (fun _ (x4 : (Int × (Txt × Txt))) _ _ => ts_one (t_k (k_eq ye.ok.blk (c_fst (c_meth (w := Counts_share_W) 0 ye.blk G_Counts_share (He.cls_ok (L.d.fact 49 rfl)) (Nat.le_of_ble_eq_true rfl) (c_v 0 rfl rfl) (a_cons (c_v 3 rfl rfl) (a_cons (c_v 4 rfl rfl) a_nil)) (fun _ => rfl) trivial)) c_int))) (fun _ (x4 : (Int × (Txt × Txt))) _ _ => (c_v 2 rfl rfl)))))) (by exact h) ?_
  intro v8 h
  try dsimp only
  exact ⟨⟨0, rfl⟩, _, rfl, h⟩
abbrev Counts_all_made_N : List Str := ["self", "length", "rows", "k", "pairs", "word", "letter", "many"]
theorem Counts_all_made_S : FnScope Counts_all_made_N ["self", "length"] d_Counts_all_made.scope := ⟨rfl, rfl, rfl, by decide +kernel, rfl, by decide +kernel, by decide +kernel⟩
theorem ok_Counts_all_made (B : Bis mg) (L : LK w K mg base fa fn tq) {fd : FuncData} (F1 : Fd K d_Counts_all_made ["self", "length"] fd) (G_Counts_next_letters : Mt P w K mg base (tbOf K tq) 4 (He.ga K "Counts") "next_letters" ["self", "start"] (spF K Counts_next_letters_W)) : FnOk P w K mg base (L2.CX P w) 5 (He.fAd K d_Counts_all_made.at_) fd ["self", "length"] (toSp K (tbOf K tq) 2 (spF K Counts_all_made_W)) := by
  refine fn_F (k := 4) none L F1 Counts_all_made_S Counts_all_made_W noneNo (fun _ => rfl) ?_
  intro z t Q E h ye tbl
  obtain ⟨self1, length2, ⟨⟩⟩ := t
  show Ws _ (⟨[some (pu self1), some (pu length2), none, none, none, none, none, none], []⟩ : DSt) _ _
  refine s_asg (R := fun (rows3 : (List Txt)) => (Counts_all_made_w5 self1 length2 rows3 Q E)) 2 ye.ok rfl (c_list (s_cons c_tx (s_nil))) ?_ (by exact h)
  intro rows3 h
  try dsimp only
  show Ws _ (⟨[some (pu self1), some (pu length2), some (pu rows3), none, none, none, none, none], []⟩ : DSt) _ _
  refine s_for (Z := (List Txt)) (J := Option Pv × Option Pv) (Body := (fun (x4 : Int) (z5 : (List Txt)) (nx7 : (List Txt) → Prop) => (Counts_all_made_w3 self1 nx7 z5 E))) (Rest := (fun (z19 : (List Txt)) => (Counts_all_made_w4 self1 z19 Q))) (.n 3) (fun (z5 : (List Txt)) (j6 : Option Pv × Option Pv) => (⟨[some (pu self1), some (pu length2), some (pu (z5 : (List Txt))), j6.1, j6.2, none, none, none], []⟩ : DSt)) rows3 (none, none) ye.ok (i_range1 ye.ok B (by rfl) (c_v 1 rfl rfl)) (tg_nm ye.ok.nd 3 rfl) rfl ?_ ?_ (by exact h)
  · intro x4 rows8 j6 nx7 h
    try dsimp only
    show Ws _ (⟨[some (pu self1), some (pu length2), some (pu rows8), some (pu x4), j6.2, none, none, none], []⟩ : DSt) _ _
    refine s_asgL2 (R := fun (pairs16 : (List (Txt × Txt))) => (Counts_all_made_w2 nx7 pairs16 E)) 4 ye.ok rfl (l_lc2 (.n 5) (.p (.n 6) (.n 7)) [("word", 5), ("letter", 6), ("many", 7)] [6, 7] ye.ok (i_list (c_v 2 rfl rfl)) (show BlkOk Counts_all_made_N d_Counts_all_made.scope _ _ from blk_by (by decide +kernel)) (fun z => (tg_blk ye.ok z 5 rfl)) (fun z => (tg_pair ye.ok.blk.calm (tg_blk ye.ok z 6 rfl) (tg_blk ye.ok z 7 rfl))) (fun _ (x9 : Txt) _ _ => ts_nil) (fun _ (x9 : Txt) _ _ => (i_tup (c_meth (w := Counts_next_letters_W) 0 ye.blk G_Counts_next_letters (He.cls_ok (L.d.fact 49 rfl)) (Nat.le_of_ble_eq_true rfl) (c_v 0 rfl rfl) (a_cons (c_v 5 rfl rfl) a_nil) (fun _ => rfl) trivial))) (fun _ (x9 : Txt) (x11 : (Txt × Int)) _ _ => ts_nil) (fun _ (x9 : Txt) (x11 : (Txt × Int)) _ _ => (c_tup2 (a_cons (c_v 5 rfl rfl) (a_cons (c_v 6 rfl rfl) a_nil))))) ?_ (by exact h)
    intro pairs16 h
    try dsimp only
    show Ws _ (⟨[some (pu self1), some (pu length2), some (pu rows8), some (pu x4), some (pu pairs16), none, none, none], []⟩ : DSt) _ _
    refine s_asg (R := fun (rows18 : (List Txt)) => (Counts_all_made_w1 nx7 rows18 E)) 2 ye.ok rfl (c_sorted ye.ok B (by rfl) (c_l (c_L ye.ok (l_lc (.p (.n 5) (.n 6)) [("word", 5), ("letter", 6)] (fun (x17 : (Txt × Txt)) => (decide (x17.2 ≠ (tx ".")))) (fun (x17 : (Txt × Txt)) => (x17.1 ++ x17.2)) ye.ok (i_list (c_v 4 rfl rfl)) (show BlkOk Counts_all_made_N d_Counts_all_made.scope _ _ from blk_by (by decide +kernel)) (fun z => (tg_pair ye.ok.blk.calm (tg_blk ye.ok z 5 rfl) (tg_blk ye.ok z 6 rfl))) (fun _ (x17 : (Txt × Txt)) _ _ => ts_one (t_k (k_ne ye.ok.blk (c_v 6 rfl rfl) (c_gs rfl (He.str_ok L.X L.G (L.d.fact 48 rfl)))))) (fun _ (x17 : (Txt × Txt)) _ _ => (c_catS (c_v 5 rfl rfl) (c_v 6 rfl rfl))))))) ?_ (by exact h)
    intro rows18 h
    try dsimp only
    show Ws _ (⟨[some (pu self1), some (pu length2), some (pu rows18), some (pu x4), some (pu pairs16), none, none, none], []⟩ : DSt) _ _
    refine s_if (B := E .BadCount) (C := nx7 rows18) (t_k (k_gt (c_lenL B (by rfl) (c_l (c_v 2 rfl rfl))) c_int)) ?_ ?_ (by exact h)
    · intro h
      exact s_raise 0 .BadCount ye (L.err 70 23) rfl rfl rfl (by exact h)
    intro h
    refine ws_nil ?_
    exact ws_nil ⟨rows18, (some (pu x4), some (pu pairs16)), rfl, h⟩
  intro rows21 j20 h
  try dsimp only
  show Ws _ (⟨[some (pu self1), some (pu length2), some (pu rows21), j20.1, j20.2, none, none, none], []⟩ : DSt) _ _
  refine s_ret (R := fun (v27 : (Tup Txt)) => Q v27) (c_tupL B (by rfl) (c_l (c_L ye.ok (l_lcX (.n 5) [("word", 5)] ye.ok (i_list (c_v 2 rfl rfl)) (show BlkOk Counts_all_made_N d_Counts_all_made.scope _ _ from blk_by (by decide +kernel)) (fun z => (tg_blk ye.ok z 5 rfl)) (fun _ (x22 : Txt) _ _ => ts_one (t_k (k_in ye.ok.blk (c_gs rfl (He.str_ok L.X L.G (L.d.fact 48 rfl))) (c_l (c_L ye.ok.blk (l_lc0 (.p (.n 6) (.n 7)) [("letter", 6), ("many", 7)] (fun (x24 : (Txt × Int)) => x24.1) ye.ok.blk (i_tup (c_meth (w := Counts_next_letters_W) 0 ye.blk G_Counts_next_letters (He.cls_ok (L.d.fact 49 rfl)) (Nat.le_of_ble_eq_true rfl) (c_v 0 rfl rfl) (a_cons (c_v 5 rfl rfl) a_nil) (fun _ => rfl) trivial)) (blk_by (by first | decide +kernel | rfl)) (fun z => (tg_pair ye.ok.blk.blk.calm (tg_blk ye.ok.blk z 6 rfl) (tg_blk ye.ok.blk z 7 rfl))) (fun _ (x24 : (Txt × Int)) _ _ => (c_v 6 rfl rfl)))))))) (fun _ (x22 : Txt) _ _ => (c_v 5 rfl rfl)))))) (by exact h) ?_
  intro v27 h
  try dsimp only
  exact ⟨⟨0, rfl⟩, _, rfl, h⟩
abbrev Counts_both_N : List Str := ["self", "other", "found", "one", "start", "sign", "many"]
theorem Counts_both_S : FnScope Counts_both_N ["self", "other"] d_Counts_both.scope := ⟨rfl, rfl, rfl, by decide +kernel, rfl, by decide +kernel, by decide +kernel⟩
theorem ok_Counts_both (B : Bis mg) (L : LK w K mg base fa fn tq) {fd : FuncData} (F1 : Fd K d_Counts_both ["self", "other"] fd) (G_Counts_init_2 : Mkr P w K mg base (tbOf K tq) 5 "Counts" (He.ga K "Counts") ["self", "words", "size"] (init2Sp K)) : FnOk P w K mg base (L2.CX P w) 7 (He.fAd K d_Counts_both.at_) fd ["self", "other"] (toSp K (tbOf K tq) 2 (spF K Counts_both_W)) := by
  refine fn_F (k := 6) none L F1 Counts_both_S Counts_both_W noneNo (fun _ => rfl) ?_
  intro z t Q E h ye tbl
  obtain ⟨self1, other2, ⟨⟩⟩ := t
  show Ws _ (⟨[some (pu self1), some (pu other2), none, none, none, none, none], []⟩ : DSt) _ _
  refine s_if (B := E .BadCount) (C := ((1 : Int) ≤ self1.size ∧ self1.size ≤ (4 : Int)) ∧ forW [self1, other2] (([], []) : Rws × Whl) (fun (one : CountsV) (z : Rws × Whl) (nx : Rws × Whl → Prop) => forW (one.rows.kvs.map (·.1)) z (fun (start : Txt) (z : Rws × Whl) (nx : Rws × Whl → Prop) => Counts_both_b one start z nx) nx) (fun (z : Rws × Whl) => Q (CountsV.mk self1.size (Dct.mk (frzH z.1)) (Dct.mk z.2)))) (t_k (k_ne ye.ok (c_fld CountsV.size (He.cls_ok (L.d.fact 49 rfl)) (He.noat_ok (L.d.fact 51 rfl)) (c_v 1 rfl rfl)) (c_fld CountsV.size (He.cls_ok (L.d.fact 49 rfl)) (He.noat_ok (L.d.fact 51 rfl)) (c_v 0 rfl rfl)))) ?_ ?_ (by exact h)
  · intro h
    exact s_raise 0 .BadCount ye (L.err 70 23) rfl rfl rfl (by exact h)
  rintro ⟨⟨l1, l2⟩, h⟩
  refine ws_nil ?_
  refine s_makeG (V := fun k => k (PySem.W.Tup.mk ([] : List Txt), self1.size, ())) 2 ye.ok G_Counts_init_2 (Nat.le_of_ble_eq_true rfl) rfl rfl (a_cons (c_tupH (s_nil (α := Txt))) (a_cons (c_fld CountsV.size (He.cls_ok (L.d.fact 49 rfl)) (He.noat_ok (L.d.fact 51 rfl)) (c_v 0 rfl rfl)) a_nil)) (fun _ => rfl) ?_
  intro q
  refine ⟨q, self1.size, rfl, rfl, l1, l2, fun qr qw f0 => ⟨rfl, ?_⟩⟩
  show Ws _ (⟨[some (pu self1), some (pu other2), some (raw (.ref q)), none, none, none, none], hgs K q qr qw self1.size ([], []) f0⟩ : DSt) _ _
  refine s_for (Z := Rws × Whl) (J := Option Pv × Option Pv × Option Pv × Option Pv × (Nat → Addr)) (Body := fun (one : CountsV) (z : Rws × Whl) (nx : Rws × Whl → Prop) => forW (one.rows.kvs.map (·.1)) z (fun (start : Txt) (z : Rws × Whl) (nx : Rws × Whl → Prop) => Counts_both_b one start z nx) nx) (Rest := fun (z : Rws × Whl) => Q (CountsV.mk self1.size (Dct.mk (frzH z.1)) (Dct.mk z.2))) (.n 3) (fun (z : Rws × Whl) (j : Option Pv × Option Pv × Option Pv × Option Pv × (Nat → Addr)) => (⟨[some (pu self1), some (pu other2), some (raw (.ref q)), j.1, j.2.1, j.2.2.1, j.2.2.2.1], hgs K q qr qw self1.size z j.2.2.2.2⟩ : DSt)) ([], []) (none, none, none, none, f0) ye.ok (i_tup (c_tupH (s_cons (c_v 0 rfl rfl) (s_cons (c_v 1 rfl rfl) s_nil)))) (tg_nm ye.ok.nd 3 rfl) rfl ?_ ?_ (by exact h)
  · intro one z1 j1 nx1 h
    show Ws _ (⟨[some (pu self1), some (pu other2), some (raw (.ref q)), some (pu one), j1.2.1, j1.2.2.1, j1.2.2.2.1], hgs K q qr qw self1.size z1 j1.2.2.2.2⟩ : DSt) _ _
    refine s_for (Z := Rws × Whl) (J := Option Pv × Option Pv × Option Pv × (Nat → Addr)) (Body := fun (start : Txt) (z : Rws × Whl) (nx : Rws × Whl → Prop) => Counts_both_b one start z nx) (Rest := nx1) (.n 4) (fun (z : Rws × Whl) (j : Option Pv × Option Pv × Option Pv × (Nat → Addr)) => (⟨[some (pu self1), some (pu other2), some (raw (.ref q)), some (pu one), j.1, j.2.1, j.2.2.1], hgs K q qr qw self1.size z j.2.2.2⟩ : DSt)) z1 (j1.2.1, j1.2.2.1, j1.2.2.2.1, j1.2.2.2.2) ye.ok (i_keys (c_fld CountsV.rows (He.cls_ok (L.d.fact 49 rfl)) (He.noat_ok (L.d.fact 52 rfl)) (c_v 3 rfl rfl))) (tg_nm ye.ok.nd 4 rfl) rfl ?_ ?_ (by exact h)
    · intro start z j nx h
      obtain ⟨h1, h2, h3⟩ := h
      show Ws _ (⟨[some (pu self1), some (pu other2), some (raw (.ref q)), some (pu one), some (pu start), j.2.1, j.2.2.1], hgs K q qr qw self1.size z j.2.2.2⟩ : DSt) _ _
      refine s_hop (R := fun k => k = start) (m := z.1) (fA := j.2.2.2) (front := [(q, hself K qr qw self1.size), (qr, dctc (grefs z.1 j.2.2.2)), (qw, dctc z.2)]) (g := 1) (evp_fld (He.cls_ok (L.d.fact 49 rfl)) (He.noat_ok (L.d.fact 52 rfl)) (evp_v 2 rfl rfl) (IA.own 0 rfl) rfl (by exact ab_ok rfl)) rfl rfl (c_v 4 rfl rfl) ?_ (by exact ⟨h1, rfl⟩)
      intro k1 f1 ek
      subst ek
      show Ws _ (⟨[some (pu self1), some (pu other2), some (raw (.ref q)), some (pu one), some (pu k1), j.2.1, j.2.2.1], hgs K q qr qw self1.size (hop z.1 k1, z.2) f1⟩ : DSt) _ _
      refine s_for (Z := Rws × Whl) (J := Option Pv × Option Pv × (Nat → Addr)) (Body := fun (p : Txt × Int) (z : Rws × Whl) (nx : Rws × Whl → Prop) => Counts_both_c k1 p z nx) (Rest := nx) (.p (.n 5) (.n 6)) (fun (z : Rws × Whl) (j : Option Pv × Option Pv × (Nat → Addr)) => (⟨[some (pu self1), some (pu other2), some (raw (.ref q)), some (pu one), some (pu k1), j.1, j.2.1], hgs K q qr qw self1.size z j.2.2⟩ : DSt)) (hop z.1 k1, z.2) (j.2.1, j.2.2.1, f1) ye.ok (i_items (c_dget ye.ok (c_d (c_fld CountsV.rows (He.cls_ok (L.d.fact 49 rfl)) (He.noat_ok (L.d.fact 52 rfl)) (c_v 3 rfl rfl))) (c_v 4 rfl rfl))) (tg_pair ye.ok.calm (tg_nm ye.ok.nd 5 rfl) (tg_nm ye.ok.nd 6 rfl)) rfl ?_ ?_ (by exact ⟨h2, h3⟩)
      · intro p z2 j2 nx2 h
        obtain ⟨h1, h2, h3, h4⟩ := h
        show Ws _ (⟨[some (pu self1), some (pu other2), some (raw (.ref q)), some (pu one), some (pu k1), some (pu p.1), some (pu p.2)], hgs K q qr qw self1.size z2 j2.2.2⟩ : DSt) _ _
        obtain ⟨row, hrow⟩ := Option.isSome_iff_exists.mp h1
        rcases h_find z2.1 j2.2.2 k1 with ⟨_, g2, _⟩ | ⟨jj, a, v, g1, g2, g3, g4⟩
        · rw [hrow] at g2; cases g2
        rw [hrow] at g1
        cases g1
        have gdg : dgt (grefs z2.1 j2.2.2) k1 = Rf.mk a := by unfold dgt; rw [g2]; rfl
        have gdh : dhas (grefs z2.1 j2.2.2) k1 = true := by unfold dhas; rw [g2]; rfl
        have gjj : (hgs K q qr qw self1.size z2 j2.2.2)[jj + 3]? = some (a, dctc row) := g3
        have grow : ((dval z2.1 k1).getD []) = row := by rw [hrow]; rfl
        refine s_rput (κ2 := Txt) (ν := Int) (R := fun (v : Int) (r : Rf) (k : Txt) => v = (dval row p.1).getD (0 : Int) + p.2 ∧ r = Rf.mk a ∧ k = p.1) ye.ok (c_add (c_dget2 ye.ok (d_rf (c_dget (ν := Rf) ye.ok (d_ownF 2 0 1 (He.cls_ok (L.d.fact 49 rfl)) (He.noat_ok (L.d.fact 52 rfl)) rfl rfl rfl rfl rfl) (c_v 4 rfl rfl))) (c_v 5 rfl rfl) c_int) (c_v 6 rfl rfl)) (c_dget (ν := Rf) ye.ok (d_ownF 2 0 1 (He.cls_ok (L.d.fact 49 rfl)) (He.noat_ok (L.d.fact 52 rfl)) rfl rfl rfl rfl rfl) (c_v 4 rfl rfl)) (c_v 5 rfl rfl) ?_ ?_
        · rintro v r k ⟨rfl, rfl, rfl⟩
          refine ⟨jj + 3, row, gjj, by rw [← grow]; exact h2, ?_⟩
          have hc := g4 (dput row p.1 ((dval row p.1).getD (0 : Int) + p.2))
          have hst : (hgs K q qr qw self1.size z2 j2.2.2).set (jj + 3) (a, dctc (dput row p.1 ((dval row p.1).getD (0 : Int) + p.2))) = hgs K q qr qw self1.size (rset z2.1 k1 (dput row p.1 ((dval row p.1).getD (0 : Int) + p.2)), z2.2) j2.2.2 := by
            show (q, hself K qr qw self1.size) :: (qr, dctc (grefs z2.1 j2.2.2)) :: (qw, dctc z2.2) :: (hcells z2.1 j2.2.2).set jj _ = (q, hself K qr qw self1.size) :: (qr, dctc (grefs (rset z2.1 k1 _) j2.2.2)) :: (qw, dctc z2.2) :: hcells (rset z2.1 k1 _) j2.2.2
            rw [hc.1, hc.2]
          show Ws _ (⟨_, (hgs K q qr qw self1.size z2 j2.2.2).set (jj + 3) _⟩ : DSt) _ _
          rw [hst]
          refine s_fput (R := fun (v : Whl) => nx2 (rset z2.1 k1 (dput row p.1 ((dval row p.1).getD (0 : Int) + p.2)), v)) 2 0 2 (He.cls_ok (L.d.fact 49 rfl)) (He.noat_ok (L.d.fact 53 rfl)) ye.ok rfl rfl rfl rfl rfl (c_add (c_dget2 ye.ok (d_ownF 2 0 2 (He.cls_ok (L.d.fact 49 rfl)) (He.noat_ok (L.d.fact 53 rfl)) rfl rfl rfl rfl rfl) (c_v 4 rfl rfl) c_int) (c_v 6 rfl rfl)) (c_v 4 rfl rfl) ?_ (by
            refine ⟨h3, ?_⟩
            have := h4
            unfold cput at this
            rw [grow] at this
            exact this)
          intro v h
          exact ws_nil ⟨(rset z2.1 k1 (dput row p.1 ((dval row p.1).getD (0 : Int) + p.2)), v), (some (pu p.1), some (pu p.2), j2.2.2), rfl, h⟩
        · refine ⟨gdh, jj + 3, row, by rw [gdg]; exact gjj, ?_⟩
          exact ⟨gdh, rfl, gdg, rfl⟩
      · intro z2 j2 h
        exact ws_nil ⟨z2, (some (pu k1), j2.1, j2.2.1, j2.2.2), rfl, h⟩
    · intro z2 j2 h
      exact ws_nil ⟨z2, (some (pu one), j2.1, j2.2.1, j2.2.2.1, j2.2.2.2), rfl, h⟩
  intro z j h
  refine ws_frH (front := [(q, hself K qr qw self1.size), (qr, dctc (grefs z.1 j.2.2.2.2)), (qw, dctc z.2)]) (m := z.1) (f := j.2.2.2.2) 1 rfl rfl ?_
  refine ws_frFD (f := "rows") (m := frzH z.1) 0 1 (by decide) rfl rfl rfl ?_
  refine ws_frFD (f := "whole") (m := z.2) 0 1 (by decide) rfl rfl rfl ?_
  refine ws_frI (mm := CountsV.mk self1.size (Dct.mk (frzH z.1)) (Dct.mk z.2)) 2 0 rfl rfl ?_
  refine s_ret (R := fun (v : CountsV) => Q v) (c_v 2 rfl rfl) (by exact h) ?_
  intro v h
  exact ⟨⟨0, rfl⟩, _, rfl, h⟩
abbrev runs_in_N : List Str := ["word", "size", "rows", "k", "run"]
theorem runs_in_S : FnScope runs_in_N ["word", "size"] d_runs_in.scope := ⟨rfl, rfl, rfl, by decide +kernel, rfl, by decide +kernel, by decide +kernel⟩
theorem ok_runs_in (B : Bis mg) (L : LK w K mg base fa fn tq) {fd : FuncData} (F1 : Fd K d_runs_in ["word", "size"] fd)  : FnOk P w K mg base (L2.CX P w) 1 (He.fAd K d_runs_in.at_) fd ["word", "size"] (toSp K (tbOf K tq) 2 (spF K runs_in_W)) := by
  refine fn_F (k := 0) none L F1 runs_in_S runs_in_W noneNo (fun _ => rfl) ?_
  intro z t Q E h ye tbl
  obtain ⟨word1, size2, ⟨⟩⟩ := t
  show Ws _ (⟨[some (pu word1), some (pu size2), none, none, none], []⟩ : DSt) _ _
  refine s_if (B := E .BadCount) (C := (runs_in_w2 word1 size2 Q)) (t_k (k_lt (c_v 1 rfl rfl) c_int)) ?_ ?_ (by exact h)
  · intro h
    exact s_raise 0 .BadCount ye (L.err 70 23) rfl rfl rfl (by exact h)
  intro h
  refine ws_nil ?_
  refine s_asg (R := fun (rows4 : (List Txt)) => (runs_in_w1 rows4 Q)) 2 ye.ok rfl (c_L ye.ok (l_lc0 (.n 3) [("k", 3)] (fun (x3 : Int) => (cutD word1 (some x3) (some (x3 + size2)))) ye.ok (i_range1 ye.ok B (by rfl) (c_add (c_sub (c_lenS B (by rfl) (c_v 0 rfl rfl)) (c_v 1 rfl rfl)) c_int)) (show BlkOk runs_in_N d_runs_in.scope _ _ from blk_by (by decide +kernel)) (fun z => (tg_blk ye.ok z 3 rfl)) (fun _ (x3 : Int) _ _ => (c_slS (c_v 0 rfl rfl) (o_at (c_v 3 rfl rfl)) (o_at (c_add (c_v 3 rfl rfl) (c_v 1 rfl rfl))))))) ?_ (by exact h)
  intro rows4 h
  try dsimp only
  show Ws _ (⟨[some (pu word1), some (pu size2), some (pu rows4), none, none], []⟩ : DSt) _ _
  refine s_ret (R := fun (v7 : (TupN (Txt × Int))) => Q v7) (c_tupN B (by rfl) (c_l (c_L ye.ok (l_lc0 (.n 4) [("run", 4)] (fun (x6 : Txt) => (x6, (cnt rows4 x6 : Int))) ye.ok (i_list (c_sortedD ye.ok B (by rfl) (c_d (c_dictL ye.ok B (by rfl) (c_l (c_L ye.ok (l_lc0 (.n 4) [("run", 4)] (fun (x5 : Txt) => (x5, (1 : Int))) ye.ok (i_list (c_v 2 rfl rfl)) (show BlkOk runs_in_N d_runs_in.scope _ _ from blk_by (by decide +kernel)) (fun z => (tg_blk ye.ok z 4 rfl)) (fun _ (x5 : Txt) _ _ => (c_tup2 (a_cons (c_v 4 rfl rfl) (a_cons c_int a_nil))))))))))) (show BlkOk runs_in_N d_runs_in.scope _ _ from blk_by (by decide +kernel)) (fun z => (tg_blk ye.ok z 4 rfl)) (fun _ (x6 : Txt) _ _ => (c_tup2 (a_cons (c_v 4 rfl rfl) (a_cons (c_cntL ye.ok.blk (c_l (c_v 2 rfl rfl)) (c_v 4 rfl rfl)) a_nil)))))))) (by exact h) ?_
  intro v7 h
  try dsimp only
  exact ⟨⟨0, rfl⟩, _, rfl, h⟩
abbrev run_likeness_N : List Str := ["one", "other", "size", "first", "second", "shared", "run", "many"]
theorem run_likeness_S : FnScope run_likeness_N ["one", "other", "size"] d_run_likeness.scope := ⟨rfl, rfl, rfl, by decide +kernel, rfl, by decide +kernel, by decide +kernel⟩
theorem ok_run_likeness (B : Bis mg) (L : LK w K mg base fa fn tq) {fd : FuncData} (F1 : Fd K d_run_likeness ["one", "other", "size"] fd) (G_runs_in : Df P w K mg base (tbOf K tq) 1 "runs_in" ["word", "size"] (spF K runs_in_W)) : FnOk P w K mg base (L2.CX P w) 3 (He.fAd K d_run_likeness.at_) fd ["one", "other", "size"] (toSp K (tbOf K tq) 3 (spF K run_likeness_W)) := by
  refine fn_F (k := 2) none L F1 run_likeness_S run_likeness_W noneNo (fun _ => rfl) ?_
  intro z t Q E h ye tbl
  obtain ⟨one1, other2, size3, ⟨⟩⟩ := t
  show Ws _ (⟨[some (pu one1), some (pu other2), some (pu size3), none, none, none, none, none], []⟩ : DSt) _ _
  refine s_asgT (R := fun (u6 : ((Dct Txt Int) × (Dct Txt Int))) => (run_likeness_w2 u6 Q)) (.p (.n 3) (.n 4)) (tg_pair ye.ok.calm (tg_nm ye.ok.nd 3 rfl) (tg_nm ye.ok.nd 4 rfl)) (c_tup2 (a_cons (c_dictU ye.ok B (by rfl) (c_call (w := runs_in_W) 0 ye G_runs_in (Nat.le_of_ble_eq_true rfl) rfl (a_cons (c_v 0 rfl rfl) (a_cons (c_v 2 rfl rfl) a_nil)) (fun _ => rfl) rfl)) (a_cons (c_dictU ye.ok B (by rfl) (c_call (w := runs_in_W) 0 ye G_runs_in (Nat.le_of_ble_eq_true rfl) rfl (a_cons (c_v 1 rfl rfl) (a_cons (c_v 2 rfl rfl) a_nil)) (fun _ => rfl) rfl)) a_nil))) ?_ (by exact h)
  intro u6 h
  try dsimp only
  show Ws _ (⟨[some (pu one1), some (pu other2), some (pu size3), some (pu u6.1), some (pu u6.2), none, none, none], []⟩ : DSt) _ _
  refine s_asg (R := fun (shared8 : Int) => (run_likeness_w1 u6 shared8 Q)) 5 ye.ok rfl (c_sumG0 (.p (.n 6) (.n 7)) 0 [6, 7] u6.1.kvs (fun (x7 : (Txt × Int)) => (min x7.2 ((dval u6.2.kvs x7.1).getD (0 : Int)))) ye.ok B (by rfl) (Nat.le_of_ble_eq_true rfl) (i_items (c_v 3 rfl rfl)) (show GenOk run_likeness_N d_run_likeness.scope _ _ from genOk_by (by decide +kernel)) (.pl (tbl _ (List.mem_of_getElem? (i := 2) rfl))) (fun z => (tg_pair (gen_calm z) (tg_gen ye.ok z 6 rfl) (tg_gen ye.ok z 7 rfl))) (fun _ o (x7 : (Txt × Int)) => (c_min2 o B (by rfl) (c_v 7 rfl rfl) (c_dget2 o (c_d (c_v 4 rfl rfl)) (c_v 6 rfl rfl) c_int)))) ?_ (by exact h)
  intro shared8 h
  try dsimp only
  show Ws _ (⟨[some (pu one1), some (pu other2), some (pu size3), some (pu u6.1), some (pu u6.2), some (pu shared8), none, none], []⟩ : DSt) _ _
  refine s_ret (R := fun (v9 : (Int × Int)) => Q v9) (c_tup2 (a_cons (c_mul c_int (c_v 5 rfl rfl)) (a_cons (c_add (c_sumV ye.ok B (by rfl) (c_d (c_v 3 rfl rfl))) (c_sumV ye.ok B (by rfl) (c_d (c_v 4 rfl rfl)))) a_nil))) (by exact h) ?_
  intro v9 h
  try dsimp only
  exact ⟨⟨0, rfl⟩, _, rfl, h⟩
abbrev most_like_N : List Str := ["words", "word", "size", "best", "other", "one", "top", "bottom"]
theorem most_like_S : FnScope most_like_N ["words", "word", "size"] d_most_like.scope := ⟨rfl, rfl, rfl, by decide +kernel, rfl, by decide +kernel, by decide +kernel⟩
theorem ok_most_like (B : Bis mg) (L : LK w K mg base fa fn tq) {fd : FuncData} (F1 : Fd K d_most_like ["words", "word", "size"] fd) (G_run_likeness : Df P w K mg base (tbOf K tq) 3 "run_likeness" ["one", "other", "size"] (spF K run_likeness_W)) : FnOk P w K mg base (L2.CX P w) 4 (He.fAd K d_most_like.at_) fd ["words", "word", "size"] (toSp K (tbOf K tq) 3 (spF K most_like_W)) := by
  refine fn_F (k := 3) none L F1 most_like_S most_like_W noneNo (fun _ => rfl) ?_
  intro z t Q E h ye tbl
  obtain ⟨words1, word2, size3, ⟨⟩⟩ := t
  show Ws _ (⟨[some (pu words1), some (pu word2), some (pu size3), none, none, none, none, none], []⟩ : DSt) _ _
  refine s_asg (R := fun (best4 : (Option (T3 Int Int Txt))) => (most_like_w5 words1 word2 size3 best4 Q E)) 3 ye.ok rfl (c_none (α := (T3 Int Int Txt))) ?_ (by exact h)
  intro best4 h
  try dsimp only
  show Ws _ (⟨[some (pu words1), some (pu word2), some (pu size3), some (pu best4), none, none, none, none], []⟩ : DSt) _ _
  refine s_for (Z := (Option (T3 Int Int Txt))) (J := Option Pv × Option Pv × Option Pv) (Body := (fun (x6 : Txt) (z7 : (Option (T3 Int Int Txt))) (nx9 : (Option (T3 Int Int Txt)) → Prop) => (most_like_w3 word2 size3 x6 nx9 z7 E))) (Rest := (fun (z18 : (Option (T3 Int Int Txt))) => (most_like_w4 z18 Q E))) (.n 4) (fun (z7 : (Option (T3 Int Int Txt))) (j8 : Option Pv × Option Pv × Option Pv) => (⟨[some (pu words1), some (pu word2), some (pu size3), some (pu (z7 : (Option (T3 Int Int Txt)))), j8.1, none, j8.2.1, j8.2.2], []⟩ : DSt)) best4 (none, none, none) ye.ok (i_list (c_sortedD ye.ok B (by rfl) (c_d (c_dictL ye.ok B (by rfl) (c_l (c_L ye.ok (l_lc0 (.n 5) [("one", 5)] (fun (x5 : Txt) => (x5, (1 : Int))) ye.ok (i_list (c_v 0 rfl rfl)) (show BlkOk most_like_N d_most_like.scope _ _ from blk_by (by decide +kernel)) (fun z => (tg_blk ye.ok z 5 rfl)) (fun _ (x5 : Txt) _ _ => (c_tup2 (a_cons (c_v 5 rfl rfl) (a_cons c_int a_nil))))))))))) (tg_nm ye.ok.nd 4 rfl) rfl ?_ ?_ (by exact h)
  · intro x6 best10 j8 nx9 h
    try dsimp only
    show Ws _ (⟨[some (pu words1), some (pu word2), some (pu size3), some (pu best10), some (pu x6), none, j8.2.1, j8.2.2], []⟩ : DSt) _ _
    refine s_asgT (R := fun (u12 : (Int × Int)) => (most_like_w2 x6 nx9 best10 u12)) (.p (.n 6) (.n 7)) (tg_pair ye.ok.calm (tg_nm ye.ok.nd 6 rfl) (tg_nm ye.ok.nd 7 rfl)) (c_call (w := run_likeness_W) 0 ye G_run_likeness (Nat.le_of_ble_eq_true rfl) rfl (a_cons (c_v 1 rfl rfl) (a_cons (c_v 4 rfl rfl) (a_cons (c_v 2 rfl rfl) a_nil))) (fun _ => rfl) rfl) ?_ (by exact h)
    intro u12 h
    try dsimp only
    show Ws _ (⟨[some (pu words1), some (pu word2), some (pu size3), some (pu best10), some (pu x6), none, some (pu u12.1), some (pu u12.2)], []⟩ : DSt) _ _
    refine s_ifJ (Z := (Option (T3 Int Int Txt))) (J := Unit) (Rest := (fun (z13 : (Option (T3 Int Int Txt))) => (most_like_w1 nx9 z13))) (B := fun nx15 => nx15 (some (PySem.W.T3.mk u12.1 u12.2 x6))) (C := fun nx15 => nx15 best10) (fun (z13 : (Option (T3 Int Int Txt))) (j14 : Unit) => (⟨[some (pu words1), some (pu word2), some (pu size3), some (pu (z13 : (Option (T3 Int Int Txt)))), some (pu x6), none, some (pu u12.1), some (pu u12.2)], []⟩ : DSt)) (t_w (w_andP (y := (best10.isNone || (decide (((optG best10).a * u12.2) < (u12.1 * (optG best10).b))))) (t_k (k_gt (c_v 6 rfl rfl) c_int)) (w_and1 (t_w (w_orP (y := (decide (((optG best10).a * u12.2) < (u12.1 * (optG best10).b)))) (t_k (k_isN (c_v 3 rfl rfl))) (w_or1 (t_k (k_gt (c_mul (c_v 6 rfl rfl) (c_t3b (c_optG (c_v 3 rfl rfl)))) (c_mul (c_t3a (c_optG (c_v 3 rfl rfl))) (c_v 7 rfl rfl)))))))))) ?_ ?_ ?_ (by exact h)
    · intro nx15 h
      try dsimp only
      refine s_asg (R := fun (best16 : (Option (T3 Int Int Txt))) => nx15 best16) 3 ye.ok rfl (c_some (c_tup3 (a_cons (c_v 6 rfl rfl) (a_cons (c_v 7 rfl rfl) (a_cons (c_v 4 rfl rfl) a_nil))))) ?_ (by exact h)
      intro best16 h
      try dsimp only
      show Ws _ (⟨[some (pu words1), some (pu word2), some (pu size3), some (pu best16), some (pu x6), none, some (pu u12.1), some (pu u12.2)], []⟩ : DSt) _ _
      exact ws_nil ⟨best16, (), rfl, h⟩
    · intro nx15 h
      try dsimp only
      exact ws_nil ⟨best10, (), rfl, h⟩
    intro best17 j14 h
    try dsimp only
    show Ws _ (⟨[some (pu words1), some (pu word2), some (pu size3), some (pu best17), some (pu x6), none, some (pu u12.1), some (pu u12.2)], []⟩ : DSt) _ _
    exact ws_nil ⟨best17, (some (pu x6), some (pu u12.1), some (pu u12.2)), rfl, h⟩
  intro best20 j19 h
  try dsimp only
  show Ws _ (⟨[some (pu words1), some (pu word2), some (pu size3), some (pu best20), j19.1, none, j19.2.1, j19.2.2], []⟩ : DSt) _ _
  refine s_if (B := E .NoWay) (C := (best20.isSome = true ∧ Q (optG best20).c)) (t_k (k_isN (c_v 3 rfl rfl))) ?_ ?_ (by exact h)
  · intro h
    exact s_raise 0 .NoWay ye (L.err 72 25) rfl rfl rfl (by exact h)
  intro h
  refine ws_nil ?_
  refine s_ret (R := fun (v21 : Txt) => Q v21) (c_t3c (c_optG (c_v 3 rfl rfl))) (by exact h) ?_
  intro v21 h
  try dsimp only
  exact ⟨⟨0, rfl⟩, _, rfl, h⟩
abbrev law_flat_N : List Str := ["rows", "found", "row"]
theorem law_flat_S : FnScope law_flat_N ["rows"] d__law_flat.scope := ⟨rfl, rfl, rfl, by decide +kernel, rfl, by decide +kernel, by decide +kernel⟩
theorem ok_law_flat (B : Bis mg) (L : LK w K mg base fa fn tq) {fd : FuncData} (F1 : Fd K d__law_flat ["rows"] fd)  : FnOk P w K mg base (L2.CX P w) 1 (He.fAd K d__law_flat.at_) fd ["rows"] (toSp K (tbOf K tq) 1 (spF K law_flat_W)) := by
  refine fn_F (k := 0) none L F1 law_flat_S law_flat_W noneNo (fun _ => rfl) ?_
  intro z t Q E h ye tbl
  obtain ⟨rows1, ⟨⟩⟩ := t
  show Ws _ (⟨[some (pu rows1), none, none], []⟩ : DSt) _ _
  refine s_asg (R := fun (found2 : (List (Txt × Txt))) => (law_flat_w3 rows1 found2 Q)) 1 ye.ok rfl (c_list (s_nil (α := (Txt × Txt)))) ?_ (by exact h)
  intro found2 h
  try dsimp only
  show Ws _ (⟨[some (pu rows1), some (pu found2), none], []⟩ : DSt) _ _
  refine s_for (Z := (List (Txt × Txt))) (J := Option Pv) (Body := (fun (x3 : (List (Txt × Txt))) (z4 : (List (Txt × Txt))) (nx6 : (List (Txt × Txt)) → Prop) => (law_flat_w1 x3 nx6 z4))) (Rest := (fun (z9 : (List (Txt × Txt))) => (law_flat_w2 z9 Q))) (.n 2) (fun (z4 : (List (Txt × Txt))) (j5 : Option Pv) => (⟨[some (pu rows1), some (pu (z4 : (List (Txt × Txt)))), j5], []⟩ : DSt)) found2 none ye.ok (i_list (c_v 0 rfl rfl)) (tg_nm ye.ok.nd 2 rfl) rfl ?_ ?_ (by exact h)
  · intro x3 found7 j5 nx6 h
    try dsimp only
    show Ws _ (⟨[some (pu rows1), some (pu found7), some (pu x3)], []⟩ : DSt) _ _
    refine s_asg (R := fun (found8 : (List (Txt × Txt))) => nx6 found8) 1 ye.ok rfl (c_catL (c_l (c_v 1 rfl rfl)) (c_l (c_v 2 rfl rfl))) ?_ (by exact h)
    intro found8 h
    try dsimp only
    show Ws _ (⟨[some (pu rows1), some (pu found8), some (pu x3)], []⟩ : DSt) _ _
    exact ws_nil ⟨found8, some (pu x3), rfl, h⟩
  intro found11 j10 h
  try dsimp only
  show Ws _ (⟨[some (pu rows1), some (pu found11), j10], []⟩ : DSt) _ _
  refine s_ret (R := fun (v12 : (List (Txt × Txt))) => Q v12) (c_v 1 rfl rfl) (by exact h) ?_
  intro v12 h
  try dsimp only
  exact ⟨⟨0, rfl⟩, _, rfl, h⟩
abbrev law_flat_2_N : List Str := ["rows", "found", "row"]
theorem law_flat_2_S : FnScope law_flat_2_N ["rows"] d__law_flat.scope := ⟨rfl, rfl, rfl, by decide +kernel, rfl, by decide +kernel, by decide +kernel⟩
theorem ok_law_flat_2 (B : Bis mg) (L : LK w K mg base fa fn tq) {fd : FuncData} (F1 : Fd K d__law_flat ["rows"] fd)  : FnOk P w K mg base (L2.CX P w) 1 (He.fAd K d__law_flat.at_) fd ["rows"] (toSp K (tbOf K tq) 1 (spF K law_flat_2_W)) := by
  refine fn_F (k := 0) none L F1 law_flat_2_S law_flat_2_W noneNo (fun _ => rfl) ?_
  intro z t Q E h ye tbl
  obtain ⟨rows1, ⟨⟩⟩ := t
  show Ws _ (⟨[some (pu rows1), none, none], []⟩ : DSt) _ _
  refine s_asg (R := fun (found2 : (List Txt)) => (law_flat_2_w3 rows1 found2 Q)) 1 ye.ok rfl (c_list (s_nil (α := Txt))) ?_ (by exact h)
  intro found2 h
  try dsimp only
  show Ws _ (⟨[some (pu rows1), some (pu found2), none], []⟩ : DSt) _ _
  refine s_for (Z := (List Txt)) (J := Option Pv) (Body := (fun (x3 : (List Txt)) (z4 : (List Txt)) (nx6 : (List Txt) → Prop) => (law_flat_2_w1 x3 nx6 z4))) (Rest := (fun (z9 : (List Txt)) => (law_flat_2_w2 z9 Q))) (.n 2) (fun (z4 : (List Txt)) (j5 : Option Pv) => (⟨[some (pu rows1), some (pu (z4 : (List Txt))), j5], []⟩ : DSt)) found2 none ye.ok (i_list (c_v 0 rfl rfl)) (tg_nm ye.ok.nd 2 rfl) rfl ?_ ?_ (by exact h)
  · intro x3 found7 j5 nx6 h
    try dsimp only
    show Ws _ (⟨[some (pu rows1), some (pu found7), some (pu x3)], []⟩ : DSt) _ _
    refine s_asg (R := fun (found8 : (List Txt)) => nx6 found8) 1 ye.ok rfl (c_catL (c_l (c_v 1 rfl rfl)) (c_l (c_v 2 rfl rfl))) ?_ (by exact h)
    intro found8 h
    try dsimp only
    show Ws _ (⟨[some (pu rows1), some (pu found8), some (pu x3)], []⟩ : DSt) _ _
    exact ws_nil ⟨found8, some (pu x3), rfl, h⟩
  intro found11 j10 h
  try dsimp only
  show Ws _ (⟨[some (pu rows1), some (pu found11), j10], []⟩ : DSt) _ _
  refine s_ret (R := fun (v12 : (List Txt)) => Q v12) (c_v 1 rfl rfl) (by exact h) ?_
  intro v12 h
  try dsimp only
  exact ⟨⟨0, rfl⟩, _, rfl, h⟩
abbrev law_word_N : List Str := ["dice", "letters", "least", "most", "k"]
theorem law_word_S : FnScope law_word_N ["dice", "letters", "least", "most"] d__law_word.scope := ⟨rfl, rfl, rfl, by decide +kernel, rfl, by decide +kernel, by decide +kernel⟩
theorem ok_law_word (B : Bis mg) (L : LK w K mg base fa fn tq) {fd : FuncData} (F1 : Fd K d__law_word ["dice", "letters", "least", "most"] fd) (G_law_roll : Df P w K mg base (tbOf K tq) 1 "_law_roll" ["dice", "many"] (spD rollW)) : FnOk P w K mg base (L2.CX P w) 2 (He.fAd K d__law_word.at_) fd ["dice", "letters", "least", "most"] (toSp K (tbOf K tq) 4 (spD law_word_W)) := by
  refine fn_D (k := 1) none L F1 law_word_S law_word_W noneNo (fun _ => rfl) ?_
  intro q0 z t Q h ye tbl
  obtain ⟨letters1, least2, most3, ⟨⟩⟩ := t
  show Ws _ (⟨[some (raw (.ref q0)), some (pu letters1), some (pu least2), some (pu most3), none], [(q0, dicec)]⟩ : DSt) _ _
  refine s_ret (R := fun (v9 : Txt) => Q v9) (c_join c_tx (c_l (c_L ye.ok (l_lcN (.n 4) [("k", 4)] ye.ok (i_range1 ye.ok B (by rfl) (c_add (c_v 2 rfl rfl) (c_callD 0 0 ye.ok G_law_roll (Nat.le_of_ble_eq_true rfl) rfl (a_cons (c_add (c_sub (c_v 3 rfl rfl) (c_v 2 rfl rfl)) c_int) a_nil) rfl rfl rfl (fun _ => rfl)))) (show BlkOk law_word_N d__law_word.scope _ _ from blk_by (by decide +kernel)) (fun z => (tg_blk ye.ok z 4 rfl)) (fun _ (x5 : Int) _ _ => (c_ixS (c_v 1 rfl rfl) (c_callD 0 1 ye.ok.blk G_law_roll (Nat.le_of_ble_eq_true rfl) rfl (a_cons (c_lenS B (by rfl) (c_v 1 rfl rfl)) a_nil) rfl rfl rfl (fun _ => rfl)))))))) (by exact h) ?_
  intro v9 h
  try dsimp only
  exact ⟨⟨0, rfl⟩, _, rfl, h⟩
abbrev law_unlike_N : List Str := ["words", "word"]
theorem law_unlike_S : FnScope law_unlike_N ["words"] d__law_unlike.scope := ⟨rfl, rfl, rfl, by decide +kernel, rfl, by decide +kernel, by decide +kernel⟩
theorem ok_law_unlike (B : Bis mg) (L : LK w K mg base fa fn tq) {fd : FuncData} (F1 : Fd K d__law_unlike ["words"] fd)  : FnOk P w K mg base (L2.CX P w) 1 (He.fAd K d__law_unlike.at_) fd ["words"] (toSp K (tbOf K tq) 1 (spF K law_unlike_W)) := by
  refine fn_F (k := 0) none L F1 law_unlike_S law_unlike_W noneNo (fun _ => rfl) ?_
  intro z t Q E h ye tbl
  obtain ⟨words1, ⟨⟩⟩ := t
  show Ws _ (⟨[some (pu words1), none], []⟩ : DSt) _ _
  refine s_ret (R := fun (v3 : (List Txt)) => Q v3) (c_sortedD ye.ok B (by rfl) (c_d (c_dictL ye.ok B (by rfl) (c_l (c_L ye.ok (l_lc0 (.n 1) [("word", 1)] (fun (x2 : Txt) => (x2, (1 : Int))) ye.ok (i_list (c_v 0 rfl rfl)) (show BlkOk law_unlike_N d__law_unlike.scope _ _ from blk_by (by decide +kernel)) (fun z => (tg_blk ye.ok z 1 rfl)) (fun _ (x2 : Txt) _ _ => (c_tup2 (a_cons (c_v 1 rfl rfl) (a_cons c_int a_nil)))))))))) (by exact h) ?_
  intro v3 h
  try dsimp only
  exact ⟨⟨0, rfl⟩, _, rfl, h⟩
abbrev law_steps_N : List Str := ["word", "size", "text", "k"]
theorem law_steps_S : FnScope law_steps_N ["word", "size"] d__law_steps.scope := ⟨rfl, rfl, rfl, by decide +kernel, rfl, by decide +kernel, by decide +kernel⟩
theorem ok_law_steps (B : Bis mg) (L : LK w K mg base fa fn tq) {fd : FuncData} (F1 : Fd K d__law_steps ["word", "size"] fd)  : FnOk P w K mg base (L2.CX P w) 1 (He.fAd K d__law_steps.at_) fd ["word", "size"] (toSp K (tbOf K tq) 2 (spF K law_steps_W)) := by
  refine fn_F (k := 0) none L F1 law_steps_S law_steps_W noneNo (fun _ => rfl) ?_
  intro z t Q E h ye tbl
  obtain ⟨word1, size2, ⟨⟩⟩ := t
  show Ws _ (⟨[some (pu word1), some (pu size2), none, none], []⟩ : DSt) _ _
  refine s_asg (R := fun (text3 : Txt) => (law_steps_w1 word1 size2 text3 Q)) 2 ye.ok rfl (c_catS (c_catS (c_mulS c_tx (c_sub (c_v 1 rfl rfl) c_int)) (c_v 0 rfl rfl)) c_tx) ?_ (by exact h)
  intro text3 h
  try dsimp only
  show Ws _ (⟨[some (pu word1), some (pu size2), some (pu text3), none], []⟩ : DSt) _ _
  refine s_ret (R := fun (v5 : (List (Txt × Txt))) => Q v5) (c_L ye.ok (l_lc0 (.n 3) [("k", 3)] (fun (x4 : Int) => ((cutD text3 (some x4) (some ((x4 + size2) - (1 : Int)))), (ixS text3 ((x4 + size2) - (1 : Int))))) ye.ok (i_range1 ye.ok B (by rfl) (c_add (c_lenS B (by rfl) (c_v 0 rfl rfl)) c_int)) (show BlkOk law_steps_N d__law_steps.scope _ _ from blk_by (by decide +kernel)) (fun z => (tg_blk ye.ok z 3 rfl)) (fun _ (x4 : Int) _ _ => (c_tup2 (a_cons (c_slS (c_v 2 rfl rfl) (o_at (c_v 3 rfl rfl)) (o_at (c_sub (c_add (c_v 3 rfl rfl) (c_v 1 rfl rfl)) c_int))) (a_cons (c_ixS (c_v 2 rfl rfl) (c_sub (c_add (c_v 3 rfl rfl) (c_v 1 rfl rfl)) c_int)) a_nil)))))) (by exact h) ?_
  intro v5 h
  try dsimp only
  exact ⟨⟨0, rfl⟩, _, rfl, h⟩
abbrev law_same_N : List Str := ["share", "top", "bottom", "k"]
theorem law_same_S : FnScope law_same_N ["share", "top", "bottom"] d__law_same.scope := ⟨rfl, rfl, rfl, by decide +kernel, rfl, by decide +kernel, by decide +kernel⟩
theorem ok_law_same (B : Bis mg) (L : LK w K mg base fa fn tq) {fd : FuncData} (F1 : Fd K d__law_same ["share", "top", "bottom"] fd)  : FnOk P w K mg base (L2.CX P w) 1 (He.fAd K d__law_same.at_) fd ["share", "top", "bottom"] (toSp K (tbOf K tq) 3 (spF K law_same_W)) := by
  refine fn_F (k := 0) none L F1 law_same_S law_same_W noneNo (fun _ => rfl) ?_
  intro z t Q E h ye tbl
  obtain ⟨share1, top2, bottom3, ⟨⟩⟩ := t
  show Ws _ (⟨[some (pu share1), some (pu top2), some (pu bottom3), none], []⟩ : DSt) _ _
  refine s_if (B := Q false) (C := (law_same_w1 share1 Q)) (t_k (k_ne ye.ok (c_mul (c_fst (c_v 0 rfl rfl)) (c_v 2 rfl rfl)) (c_mul (c_v 1 rfl rfl) (c_snd (c_v 0 rfl rfl))))) ?_ ?_ (by exact h)
  · intro h
    refine s_ret (R := fun (v4 : Bool) => Q v4) c_bl (by exact h) ?_
    intro v4 h
    try dsimp only
    exact ⟨⟨0, rfl⟩, _, rfl, h⟩
  intro h
  refine ws_nil ?_
  refine s_ret (R := fun (v6 : Bool) => Q v6) (c_k (k_eqL ye.ok (c_l (c_L ye.ok (l_lc (.n 3) [("k", 3)] (fun (x5 : Int) => ((decide ((share1.1 % x5) = (0 : Int))) && ((decide ((share1.2 % x5) = (0 : Int))) && (decide ((0 : Int) < share1.1))))) (fun (x5 : Int) => x5) ye.ok (i_range2 ye.ok B (by rfl) c_int (c_add (c_min2 ye.ok B (by rfl) (c_snd (c_v 0 rfl rfl)) c_int) c_int)) (show BlkOk law_same_N d__law_same.scope _ _ from blk_by (by decide +kernel)) (fun z => (tg_blk ye.ok z 3 rfl)) (fun _ (x5 : Int) _ _ => ts_one (t_w (w_andP (y := ((decide ((share1.2 % x5) = (0 : Int))) && (decide ((0 : Int) < share1.1)))) (t_k (k_eq ye.ok.blk (c_mod (c_fst (c_v 0 rfl rfl)) (c_v 3 rfl rfl)) c_int)) (w_andP (y := (decide ((0 : Int) < share1.1))) (t_k (k_eq ye.ok.blk (c_mod (c_snd (c_v 0 rfl rfl)) (c_v 3 rfl rfl)) c_int)) (w_and1 (t_k (k_gt (c_fst (c_v 0 rfl rfl)) c_int))))))) (fun _ (x5 : Int) _ _ => (c_v 3 rfl rfl))))) (c_l (c_list (s_nil (α := Int)))))) (by exact h) ?_
  intro v6 h
  try dsimp only
  exact ⟨⟨0, rfl⟩, _, rfl, h⟩
abbrev law_product_N : List Str := ["pairs", "top", "bottom", "a", "b"]
theorem law_product_S : FnScope law_product_N ["pairs"] d__law_product.scope := ⟨rfl, rfl, rfl, by decide +kernel, rfl, by decide +kernel, by decide +kernel⟩
theorem ok_law_product (B : Bis mg) (L : LK w K mg base fa fn tq) {fd : FuncData} (F1 : Fd K d__law_product ["pairs"] fd)  : FnOk P w K mg base (L2.CX P w) 1 (He.fAd K d__law_product.at_) fd ["pairs"] (toSp K (tbOf K tq) 1 (spF K law_product_W)) := by
  refine fn_F (k := 0) none L F1 law_product_S law_product_W noneNo (fun _ => rfl) ?_
  intro z t Q E h ye tbl
  obtain ⟨pairs1, ⟨⟩⟩ := t
  show Ws _ (⟨[some (pu pairs1), none, none, none, none], []⟩ : DSt) _ _
  refine s_asgT (R := fun (u2 : (Int × Int)) => (law_product_w3 pairs1 u2 Q)) (.p (.n 1) (.n 2)) (tg_pair ye.ok.calm (tg_nm ye.ok.nd 1 rfl) (tg_nm ye.ok.nd 2 rfl)) (c_tup2 (a_cons c_int (a_cons c_int a_nil))) ?_ (by exact h)
  intro u2 h
  try dsimp only
  show Ws _ (⟨[some (pu pairs1), some (pu u2.1), some (pu u2.2), none, none], []⟩ : DSt) _ _
  refine s_for (Z := Int × Int) (J := Option Pv × Option Pv) (Body := (fun (x3 : (Int × Int)) (z4 : Int × Int) (nx6 : Int × Int → Prop) => (law_product_w1 x3 nx6 z4.1 z4.2))) (Rest := (fun (z11 : Int × Int) => (law_product_w2 z11.1 z11.2 Q))) (.p (.n 3) (.n 4)) (fun (z4 : Int × Int) (j5 : Option Pv × Option Pv) => (⟨[some (pu pairs1), some (pu (z4.1 : Int)), some (pu (z4.2 : Int)), j5.1, j5.2], []⟩ : DSt)) (u2.1, u2.2) (none, none) ye.ok (i_list (c_v 0 rfl rfl)) (tg_pair ye.ok.calm (tg_nm ye.ok.nd 3 rfl) (tg_nm ye.ok.nd 4 rfl)) rfl ?_ ?_ (by exact h)
  · intro x3 z4 j5 nx6 h
    try dsimp only
    obtain ⟨top7, bottom8⟩ := z4
    show Ws _ (⟨[some (pu pairs1), some (pu top7), some (pu bottom8), some (pu x3.1), some (pu x3.2)], []⟩ : DSt) _ _
    refine s_par (R := fun (top9 : Int) (bottom10 : Int) => nx6 (top9, bottom10)) 1 2 ye.ok rfl rfl (c_mul (c_v 1 rfl rfl) (c_v 3 rfl rfl)) (c_mul (c_v 2 rfl rfl) (c_v 4 rfl rfl)) ?_ (by exact h)
    intro top9 bottom10 h
    try dsimp only
    show Ws _ (⟨[some (pu pairs1), some (pu top9), some (pu bottom10), some (pu x3.1), some (pu x3.2)], []⟩ : DSt) _ _
    exact ws_nil ⟨(top9, bottom10), (some (pu x3.1), some (pu x3.2)), rfl, h⟩
  intro z11 j12 h
  try dsimp only
  obtain ⟨top13, bottom14⟩ := z11
  show Ws _ (⟨[some (pu pairs1), some (pu top13), some (pu bottom14), j12.1, j12.2], []⟩ : DSt) _ _
  refine s_ret (R := fun (v15 : (Int × Int)) => Q v15) (c_tup2 (a_cons (c_v 1 rfl rfl) (a_cons (c_v 2 rfl rfl) a_nil))) (by exact h) ?_
  intro v15 h
  try dsimp only
  exact ⟨⟨0, rfl⟩, _, rfl, h⟩
abbrev law_cases1_N : List Str := []
theorem law_cases1_S : FnScope law_cases1_N [] d__law_cases1.scope := ⟨rfl, rfl, rfl, by decide +kernel, rfl, by decide +kernel, by decide +kernel⟩
theorem ok_law_cases1 (B : Bis mg) (L : LK w K mg base fa fn tq) {fd : FuncData} (F1 : Fd K d__law_cases1 [] fd) {fd_told : FuncData} (FD_told : Fd K d__law_told ["what"] fd_told) (CM_Counts : HN.cmpK K (He.ga K "Counts")) (G_Counts_init : Mkr P w K mg base (tbOf K tq) 5 "Counts" (He.ga K "Counts") ["self", "words", "size"] (spI K Counts_init_W)) (G_runs_in : Df P w K mg base (tbOf K tq) 1 "runs_in" ["word", "size"] (spF K runs_in_W)) : FnOk P w K mg base (L2.CX P w) 9 (He.fAd K d__law_cases1.at_) fd [] (toSp K (tbOf K tq) 0 (spF K law_cases1_W)) := by
  refine fn_F (k := 8) none L F1 law_cases1_S law_cases1_W noneNo (fun _ => rfl) ?_
  intro z t Q E h ye tbl
  show Ws _ (⟨[], []⟩ : DSt) _ _
  refine s_if (B := Q false) (C := (law_cases1_w1 Q)) (t_k (k_neT (γ := CountsV) ye.ok CM_Counts (c_told 6 (Sum.inl : CountsV → (CountsV ⊕ Txt)) (Sum.inr : Txt → (CountsV ⊕ Txt)) toldT (ok_told L FD_told) (told_tells L.d) (tbl _ (List.mem_of_getElem? (i := 3) rfl)) ye.ok (Nat.le_of_ble_eq_true rfl) rfl (show LamX.LamS d__law_cases1.scope _ from LamX.lamS_by (by decide +kernel)) (fun _ _ _ _ h => h) (fun _ _ _ _ h => h) (fun z E_ ye' => (c_make (γ := CountsV) (w := Counts_init_W) 0 ye' G_Counts_init (Nat.le_of_ble_eq_true rfl) rfl (a_cons (c_list (s_cons c_tx (s_nil))) (a_cons c_int a_nil)) (fun _ => rfl) rfl))) c_tx)) ?_ ?_ (by exact h)
  · intro h
    refine s_ret (R := fun (v3 : Bool) => Q v3) c_bl (by exact h) ?_
    intro v3 h
    try dsimp only
    exact ⟨⟨0, rfl⟩, _, rfl, h⟩
  intro h
  refine ws_nil ?_
  refine s_if (B := Q false) (C := Q true) (t_k (k_ne ye.ok (c_told 1 (Sum.inl : (Tup (Txt × Int)) → ((Tup (Txt × Int)) ⊕ Txt)) (Sum.inr : Txt → ((Tup (Txt × Int)) ⊕ Txt)) toldT (ok_told L FD_told) (told_tells L.d) (tbl _ (List.mem_of_getElem? (i := 3) rfl)) ye.ok (Nat.le_of_ble_eq_true rfl) rfl (show LamX.LamS d__law_cases1.scope _ from LamX.lamS_by (by decide +kernel)) (fun _ _ _ _ h => h) (fun _ _ _ _ h => h) (fun z E_ ye' => (c_ofN (c_call (w := runs_in_W) 0 ye' G_runs_in (Nat.le_of_ble_eq_true rfl) rfl (a_cons c_tx (a_cons c_int a_nil)) (fun _ => rfl) rfl)))) (c_inr (α := (Tup (Txt × Int))) (β := Txt) c_tx))) ?_ ?_ (by exact h)
  · intro h
    refine s_ret (R := fun (v6 : Bool) => Q v6) c_bl (by exact h) ?_
    intro v6 h
    try dsimp only
    exact ⟨⟨0, rfl⟩, _, rfl, h⟩
  intro h
  refine ws_nil ?_
  refine s_ret (R := fun (v7 : Bool) => Q v7) c_bl (by exact h) ?_
  intro v7 h
  try dsimp only
  exact ⟨⟨0, rfl⟩, _, rfl, h⟩
abbrev law_rest1_N : List Str := ["dice", "words", "size", "counts", "steps", "word", "mine", "shares", "smooth", "worst", "k", "one", "length", "rows", "letter", "row", "step", "more", "begin", "sign", "many", "runs", "marks", "there", "shared", "part", "best"]
theorem law_rest1_S : FnScope law_rest1_N ["dice", "words", "size", "counts", "steps", "word", "mine", "shares", "smooth"] d__law_rest1.scope := ⟨rfl, rfl, rfl, by decide +kernel, rfl, by decide +kernel, by decide +kernel⟩
theorem ok_law_rest1 (B : Bis mg) (L : LK w K mg base fa fn tq) {fd : FuncData} (F1 : Fd K d__law_rest1 ["dice", "words", "size", "counts", "steps", "word", "mine", "shares", "smooth"] fd) {fd_told : FuncData} (FD_told : Fd K d__law_told ["what"] fd_told) (CM_Counts : HN.cmpK K (He.ga K "Counts")) (G_Counts_strangest : Mt P w K mg base (tbOf K tq) 3 (He.ga K "Counts") "strangest" ["self", "word"] (spF K Counts_strangest_W)) (G_Counts_unseen : Mt P w K mg base (tbOf K tq) 2 (He.ga K "Counts") "unseen" ["self", "word"] (spF K Counts_unseen_W)) (G_law_roll : Df P w K mg base (tbOf K tq) 1 "_law_roll" ["dice", "many"] (spD rollW)) (G_law_flat_2 : Df P w K mg base (tbOf K tq) 1 "_law_flat" ["rows"] (spF K law_flat_2_W)) (G_Counts_all_made : Mt P w K mg base (tbOf K tq) 5 (He.ga K "Counts") "all_made" ["self", "length"] (spF K Counts_all_made_W)) (G_law_steps : Df P w K mg base (tbOf K tq) 1 "_law_steps" ["word", "size"] (spF K law_steps_W)) (G_Counts_both : Mt P w K mg base (tbOf K tq) 7 (He.ga K "Counts") "both" ["self", "other"] (spF K Counts_both_W)) (G_Counts_init : Mkr P w K mg base (tbOf K tq) 5 "Counts" (He.ga K "Counts") ["self", "words", "size"] (spI K Counts_init_W)) (G_Counts_share : Mt P w K mg base (tbOf K tq) 1 (He.ga K "Counts") "share" ["self", "start", "sign"] (spF K Counts_share_W)) (G_runs_in : Df P w K mg base (tbOf K tq) 1 "runs_in" ["word", "size"] (spF K runs_in_W)) (G_law_unlike : Df P w K mg base (tbOf K tq) 1 "_law_unlike" ["words"] (spF K law_unlike_W)) (G_run_likeness : Df P w K mg base (tbOf K tq) 3 "run_likeness" ["one", "other", "size"] (spF K run_likeness_W)) (G_most_like : Df P w K mg base (tbOf K tq) 4 "most_like" ["words", "word", "size"] (spF K most_like_W)) (G_lowest : Df P w K mg base (tbOf K tq) 1 "lowest" ["top", "bottom"] (spF K lowest_W)) (G_law_cases1 : Df P w K mg base (tbOf K tq) 9 "_law_cases1" [] (spF K law_cases1_W)) : FnOk P w K mg base (L2.CX P w) 10 (He.fAd K d__law_rest1.at_) fd ["dice", "words", "size", "counts", "steps", "word", "mine", "shares", "smooth"] (toSp K (tbOf K tq) 9 (spD law_rest1_W)) := by
  refine fn_D (k := 9) none L F1 law_rest1_S law_rest1_W noneNo (fun _ => rfl) ?_
  intro q0 z t Q h ye tbl
  obtain ⟨words1, size2, counts3, steps4, word5, mine6, shares7, smooth8, ⟨⟩⟩ := t
  show Ws _ (⟨[some (raw (.ref q0)), some (pu words1), some (pu size2), some (pu counts3), some (pu steps4), some (pu word5), some (pu mine6), some (pu shares7), some (pu smooth8), none, none, none, none, none, none, none, none, none, none, none, none, none, none, none, none, none, none], [(q0, dicec)]⟩ : DSt) _ _
  refine s_asgL (R := fun (worst11 : (List Int)) => (law_rest1_w22 words1 size2 counts3 steps4 word5 mine6 shares7 worst11 Q)) 9 ye.ok rfl (l_lc (.n 10) [("k", 10)] (fun (x9 : Int) => (decide (((smooth8.filter (fun (x10 : (Int × Int)) => (decide ((x10.1 * (ixD smooth8 x9).2) < ((ixD smooth8 x9).1 * x10.2))))).map (fun (x10 : (Int × Int)) => x10)) = ([] : List (Int × Int))))) (fun (x9 : Int) => x9) ye.ok (i_range1 ye.ok B (by rfl) (c_lenL B (by rfl) (c_l (c_v 8 rfl rfl)))) (show BlkOk law_rest1_N d__law_rest1.scope _ _ from blk_by (by decide +kernel)) (fun z => (tg_blk ye.ok z 10 rfl)) (fun _ (x9 : Int) _ _ => ts_one (t_k (k_eqL ye.ok.blk (c_l (c_L ye.ok.blk (l_lc (.n 11) [("one", 11)] (fun (x10 : (Int × Int)) => (decide ((x10.1 * (ixD smooth8 x9).2) < ((ixD smooth8 x9).1 * x10.2)))) (fun (x10 : (Int × Int)) => x10) ye.ok.blk (i_list (c_v 8 rfl rfl)) (blk_by (by first | decide +kernel | rfl)) (fun z => (tg_blk ye.ok.blk z 11 rfl)) (fun _ (x10 : (Int × Int)) _ _ => ts_one (t_k (k_lt (c_mul (c_fst (c_v 11 rfl rfl)) (c_snd (c_ixL (c_l (c_v 8 rfl rfl)) (c_v 10 rfl rfl)))) (c_mul (c_fst (c_ixL (c_l (c_v 8 rfl rfl)) (c_v 10 rfl rfl))) (c_snd (c_v 11 rfl rfl)))))) (fun _ (x10 : (Int × Int)) _ _ => (c_v 11 rfl rfl))))) (c_l (c_list (s_nil (α := (Int × Int)))))))) (fun _ (x9 : Int) _ _ => (c_v 10 rfl rfl))) ?_ (by exact h)
  intro worst11 h
  try dsimp only
  show Ws _ (⟨[some (raw (.ref q0)), some (pu words1), some (pu size2), some (pu counts3), some (pu steps4), some (pu word5), some (pu mine6), some (pu shares7), some (pu smooth8), some (pu worst11), none, none, none, none, none, none, none, none, none, none, none, none, none, none, none, none, none], [(q0, dicec)]⟩ : DSt) _ _
  refine s_if (B := Q false) (C := (law_rest1_w21 words1 size2 counts3 steps4 word5 mine6 Q)) (t_w (w_or (t_k (k_ne ye.ok (c_meth (w := Counts_strangest_W) 0 ye G_Counts_strangest (He.cls_ok (L.d.fact 49 rfl)) (Nat.le_of_ble_eq_true rfl) (c_v 3 rfl rfl) (a_cons (c_v 5 rfl rfl) a_nil) (fun _ => rfl) rfl) (c_ixL (c_l (c_v 9 rfl rfl)) c_int))) (w_or1 (t_k (k_neL ye.ok (c_l (c_listH B (by rfl) (c_meth (w := Counts_unseen_W) 0 ye G_Counts_unseen (He.cls_ok (L.d.fact 49 rfl)) (Nat.le_of_ble_eq_true rfl) (c_v 3 rfl rfl) (a_cons (c_v 5 rfl rfl) a_nil) (fun _ => rfl) rfl))) (c_l (c_L ye.ok (l_lc (.n 10) [("k", 10)] (fun (x14 : Int) => (decide ((ixD shares7 x14).1 = (0 : Int)))) (fun (x14 : Int) => x14) ye.ok (i_range1 ye.ok B (by rfl) (c_lenL B (by rfl) (c_l (c_v 7 rfl rfl)))) (show BlkOk law_rest1_N d__law_rest1.scope _ _ from blk_by (by decide +kernel)) (fun z => (tg_blk ye.ok z 10 rfl)) (fun _ (x14 : Int) _ _ => ts_one (t_k (k_eq ye.ok.blk (c_fst (c_ixL (c_l (c_v 7 rfl rfl)) (c_v 10 rfl rfl))) c_int))) (fun _ (x14 : Int) _ _ => (c_v 10 rfl rfl)))))))))) ?_ ?_ (by exact h)
  · intro h
    refine s_ret (R := fun (v15 : Bool) => Q v15) c_bl (by exact h) ?_
    intro v15 h
    try dsimp only
    exact ⟨⟨0, rfl⟩, _, rfl, h⟩
  intro h
  refine ws_nil ?_
  refine s_asg (R := fun (length17 : Int) => (law_rest1_w20 words1 size2 counts3 steps4 word5 mine6 length17 Q)) 12 ye.ok rfl (c_callD 0 0 ye.ok G_law_roll (Nat.le_of_ble_eq_true rfl) rfl (a_cons c_int a_nil) rfl rfl rfl (fun _ => rfl)) ?_ (by exact h)
  intro length17 h
  try dsimp only
  show Ws _ (⟨[some (raw (.ref q0)), some (pu words1), some (pu size2), some (pu counts3), some (pu steps4), some (pu word5), some (pu mine6), some (pu shares7), some (pu smooth8), some (pu worst11), none, none, some (pu length17), none, none, none, none, none, none, none, none, none, none, none, none, none, none], [(q0, dicec)]⟩ : DSt) _ _
  refine s_asg (R := fun (rows18 : (List Txt)) => (law_rest1_w19 words1 size2 counts3 steps4 word5 mine6 length17 rows18 Q)) 13 ye.ok rfl (c_list (s_cons c_tx (s_nil))) ?_ (by exact h)
  intro rows18 h
  try dsimp only
  show Ws _ (⟨[some (raw (.ref q0)), some (pu words1), some (pu size2), some (pu counts3), some (pu steps4), some (pu word5), some (pu mine6), some (pu shares7), some (pu smooth8), some (pu worst11), none, none, some (pu length17), some (pu rows18), none, none, none, none, none, none, none, none, none, none, none, none, none], [(q0, dicec)]⟩ : DSt) _ _
  refine s_for (Z := (List Txt)) (J := Option Pv) (Body := (fun (x19 : Int) (z20 : (List Txt)) (nx22 : (List Txt) → Prop) => (law_rest1_w1 nx22 z20))) (Rest := (fun (z28 : (List Txt)) => (law_rest1_w18 words1 size2 counts3 steps4 word5 mine6 length17 z28 Q))) (.n 10) (fun (z20 : (List Txt)) (j21 : Option Pv) => (⟨[some (raw (.ref q0)), some (pu words1), some (pu size2), some (pu counts3), some (pu steps4), some (pu word5), some (pu mine6), some (pu shares7), some (pu smooth8), some (pu worst11), j21, none, some (pu length17), some (pu (z20 : (List Txt))), none, none, none, none, none, none, none, none, none, none, none, none, none], [(q0, dicec)]⟩ : DSt)) rows18 none ye.ok (i_range1 ye.ok B (by rfl) (c_v 12 rfl rfl)) (tg_nm ye.ok.nd 10 rfl) rfl ?_ ?_ (by exact h)
  · intro x19 rows23 j21 nx22 h
    try dsimp only
    show Ws _ (⟨[some (raw (.ref q0)), some (pu words1), some (pu size2), some (pu counts3), some (pu steps4), some (pu word5), some (pu mine6), some (pu shares7), some (pu smooth8), some (pu worst11), some (pu x19), none, some (pu length17), some (pu rows23), none, none, none, none, none, none, none, none, none, none, none, none, none], [(q0, dicec)]⟩ : DSt) _ _
    refine s_asg (R := fun (rows27 : (List Txt)) => nx22 rows27) 13 ye.ok rfl (c_call (w := law_flat_2_W) 0 ye G_law_flat_2 (Nat.le_of_ble_eq_true rfl) rfl (a_cons (c_L ye.ok (l_lc0 (.n 15) [("row", 15)] (fun (x24 : Txt) => (((tx "abc").map fun c => [c]).map (fun (x25 : Txt) => (x24 ++ x25)))) ye.ok (i_list (c_v 13 rfl rfl)) (show BlkOk law_rest1_N d__law_rest1.scope _ _ from blk_by (by decide +kernel)) (fun z => (tg_blk ye.ok z 15 rfl)) (fun _ (x24 : Txt) _ _ => (c_L ye.ok.blk (l_lc0 (.n 14) [("letter", 14)] (fun (x25 : Txt) => (x24 ++ x25)) ye.ok.blk (i_txt c_tx) (blk_by (by first | decide +kernel | rfl)) (fun z => (tg_blk ye.ok.blk z 14 rfl)) (fun _ (x25 : Txt) _ _ => (c_catS (c_v 15 rfl rfl) (c_v 14 rfl rfl)))))))) a_nil) (fun _ => rfl) rfl) ?_ (by exact h)
    intro rows27 h
    try dsimp only
    show Ws _ (⟨[some (raw (.ref q0)), some (pu words1), some (pu size2), some (pu counts3), some (pu steps4), some (pu word5), some (pu mine6), some (pu shares7), some (pu smooth8), some (pu worst11), some (pu x19), none, some (pu length17), some (pu rows27), none, none, none, none, none, none, none, none, none, none, none, none, none], [(q0, dicec)]⟩ : DSt) _ _
    exact ws_nil ⟨rows27, some (pu x19), rfl, h⟩
  intro rows30 j29 h
  try dsimp only
  show Ws _ (⟨[some (raw (.ref q0)), some (pu words1), some (pu size2), some (pu counts3), some (pu steps4), some (pu word5), some (pu mine6), some (pu shares7), some (pu smooth8), some (pu worst11), j29, none, some (pu length17), some (pu rows30), none, none, none, none, none, none, none, none, none, none, none, none, none], [(q0, dicec)]⟩ : DSt) _ _
  refine s_if (B := Q false) (C := (law_rest1_w17 words1 size2 counts3 word5 mine6 Q)) (t_k (k_neL ye.ok (c_l (c_listH B (by rfl) (c_meth (w := Counts_all_made_W) 0 ye G_Counts_all_made (He.cls_ok (L.d.fact 49 rfl)) (Nat.le_of_ble_eq_true rfl) (c_v 3 rfl rfl) (a_cons (c_v 12 rfl rfl) a_nil) (fun _ => rfl) rfl))) (c_l (c_L ye.ok (l_lcX (.n 15) [("row", 15)] ye.ok (i_list (c_v 13 rfl rfl)) (show BlkOk law_rest1_N d__law_rest1.scope _ _ from blk_by (by decide +kernel)) (fun z => (tg_blk ye.ok z 15 rfl)) (fun _ (x32 : Txt) _ _ => ts_one (t_k (k_eqL ye.ok.blk (c_l (c_L ye.ok.blk (l_lc (.n 16) [("step", 16)] (fun (x34 : (Txt × Txt)) => ((niL x34 steps4))) (fun (x34 : (Txt × Txt)) => x34) ye.ok.blk (i_list (c_call (w := law_steps_W) 0 ye.blk G_law_steps (Nat.le_of_ble_eq_true rfl) rfl (a_cons (c_v 15 rfl rfl) (a_cons (c_v 2 rfl rfl) a_nil)) (fun _ => rfl) trivial)) (blk_by (by first | decide +kernel | rfl)) (fun z => (tg_blk ye.ok.blk z 16 rfl)) (fun _ (x34 : (Txt × Txt)) _ _ => ts_one (t_k (k_nin ye.ok.blk.blk (c_v 16 rfl rfl) (c_l (c_v 4 rfl rfl))))) (fun _ (x34 : (Txt × Txt)) _ _ => (c_v 16 rfl rfl))))) (c_l (c_list (s_nil (α := (Txt × Txt)))))))) (fun _ (x32 : Txt) _ _ => (c_v 15 rfl rfl))))))) ?_ ?_ (by exact h)
  · intro h
    refine s_ret (R := fun (v37 : Bool) => Q v37) c_bl (by exact h) ?_
    intro v37 h
    try dsimp only
    exact ⟨⟨0, rfl⟩, _, rfl, h⟩
  intro h
  refine ws_nil ?_
  refine s_asg (R := fun (more40 : CountsV) => (law_rest1_w16 words1 size2 counts3 word5 mine6 more40 Q)) 17 ye.ok rfl (c_meth (w := Counts_both_W) 0 ye G_Counts_both (He.cls_ok (L.d.fact 49 rfl)) (Nat.le_of_ble_eq_true rfl) (c_v 3 rfl rfl) (a_cons (c_make (γ := CountsV) (w := Counts_init_W) 0 ye G_Counts_init (Nat.le_of_ble_eq_true rfl) rfl (a_cons (c_list (s_cons (c_v 5 rfl rfl) (s_nil))) (a_cons (c_v 2 rfl rfl) a_nil)) (fun _ => rfl) rfl) a_nil) (fun _ => rfl) rfl) ?_ (by exact h)
  intro more40 h
  try dsimp only
  show Ws _ (⟨[some (raw (.ref q0)), some (pu words1), some (pu size2), some (pu counts3), some (pu steps4), some (pu word5), some (pu mine6), some (pu shares7), some (pu smooth8), some (pu worst11), j29, none, some (pu length17), some (pu rows30), none, none, none, some (pu more40), none, none, none, none, none, none, none, none, none], [(q0, dicec)]⟩ : DSt) _ _
  refine s_if (B := Q false) (C := (law_rest1_w15 words1 counts3 word5 Q)) (t_k (k_neL ye.ok (c_l (c_L ye.ok (l_lcX0 (.p (.n 18) (.n 19)) [("begin", 18), ("sign", 19)] ye.ok (i_list (c_v 6 rfl rfl)) (show BlkOk law_rest1_N d__law_rest1.scope _ _ from blk_by (by decide +kernel)) (fun z => (tg_pair ye.ok.blk.calm (tg_blk ye.ok z 18 rfl) (tg_blk ye.ok z 19 rfl))) (fun _ (x41 : (Txt × Txt)) _ _ => (c_meth (w := Counts_share_W) 0 ye.blk G_Counts_share (He.cls_ok (L.d.fact 49 rfl)) (Nat.le_of_ble_eq_true rfl) (c_v 17 rfl rfl) (a_cons (c_v 18 rfl rfl) (a_cons (c_v 19 rfl rfl) a_nil)) (fun _ => rfl) trivial))))) (c_l (c_L ye.ok (l_lcX0 (.p (.n 18) (.n 19)) [("begin", 18), ("sign", 19)] ye.ok (i_list (c_v 6 rfl rfl)) (show BlkOk law_rest1_N d__law_rest1.scope _ _ from blk_by (by decide +kernel)) (fun z => (tg_pair ye.ok.blk.calm (tg_blk ye.ok z 18 rfl) (tg_blk ye.ok z 19 rfl))) (fun _ (x44 : (Txt × Txt)) _ _ => (c_meth (w := Counts_share_W) 0 ye.blk G_Counts_share (He.cls_ok (L.d.fact 49 rfl)) (Nat.le_of_ble_eq_true rfl) (c_make (γ := CountsV) (w := Counts_init_W) 0 ye.blk G_Counts_init (Nat.le_of_ble_eq_true rfl) rfl (a_cons (c_catL (c_l (c_v 1 rfl rfl)) (c_l (c_list (s_cons (c_v 5 rfl rfl) (s_nil))))) (a_cons (c_v 2 rfl rfl) a_nil)) (fun _ => rfl) trivial) (a_cons (c_v 18 rfl rfl) (a_cons (c_v 19 rfl rfl) a_nil)) (fun _ => rfl) trivial))))))) ?_ ?_ (by exact h)
  · intro h
    refine s_ret (R := fun (v48 : Bool) => Q v48) c_bl (by exact h) ?_
    intro v48 h
    try dsimp only
    exact ⟨⟨0, rfl⟩, _, rfl, h⟩
  intro h
  refine ws_nil ?_
  refine s_asg (R := fun (many50 : Int) => (law_rest1_w14 words1 counts3 word5 many50 Q)) 20 ye.ok rfl (c_add c_int (c_callD 0 0 ye.ok G_law_roll (Nat.le_of_ble_eq_true rfl) rfl (a_cons c_int a_nil) rfl rfl rfl (fun _ => rfl))) ?_ (by exact h)
  intro many50 h
  try dsimp only
  show Ws _ (⟨[some (raw (.ref q0)), some (pu words1), some (pu size2), some (pu counts3), some (pu steps4), some (pu word5), some (pu mine6), some (pu shares7), some (pu smooth8), some (pu worst11), j29, none, some (pu length17), some (pu rows30), none, none, none, some (pu more40), none, none, some (pu many50), none, none, none, none, none, none], [(q0, dicec)]⟩ : DSt) _ _
  refine s_asg (R := fun (runs52 : (List Txt)) => (law_rest1_w13 words1 counts3 word5 many50 runs52 Q)) 21 ye.ok rfl (c_L ye.ok (l_lc0 (.n 10) [("k", 10)] (fun (x51 : Int) => (cutD word5 (some x51) (some (x51 + many50)))) ye.ok (i_range1 ye.ok B (by rfl) (c_add (c_sub (c_lenS B (by rfl) (c_v 5 rfl rfl)) (c_v 20 rfl rfl)) c_int)) (show BlkOk law_rest1_N d__law_rest1.scope _ _ from blk_by (by decide +kernel)) (fun z => (tg_blk ye.ok z 10 rfl)) (fun _ (x51 : Int) _ _ => (c_slS (c_v 5 rfl rfl) (o_at (c_v 10 rfl rfl)) (o_at (c_add (c_v 10 rfl rfl) (c_v 20 rfl rfl))))))) ?_ (by exact h)
  intro runs52 h
  try dsimp only
  show Ws _ (⟨[some (raw (.ref q0)), some (pu words1), some (pu size2), some (pu counts3), some (pu steps4), some (pu word5), some (pu mine6), some (pu shares7), some (pu smooth8), some (pu worst11), j29, none, some (pu length17), some (pu rows30), none, none, none, some (pu more40), none, none, some (pu many50), some (pu runs52), none, none, none, none, none], [(q0, dicec)]⟩ : DSt) _ _
  refine s_if (B := Q false) (C := (law_rest1_w12 words1 counts3 word5 many50 runs52 Q)) (t_k (k_neL ye.ok (c_l (c_listH B (by rfl) (c_ofN (c_call (w := runs_in_W) 0 ye G_runs_in (Nat.le_of_ble_eq_true rfl) rfl (a_cons (c_v 5 rfl rfl) (a_cons (c_v 20 rfl rfl) a_nil)) (fun _ => rfl) rfl)))) (c_l (c_L ye.ok (l_lc0 (.n 11) [("one", 11)] (fun (x55 : Txt) => (x55, (cnt runs52 x55 : Int))) ye.ok (i_list (c_call (w := law_unlike_W) 0 ye G_law_unlike (Nat.le_of_ble_eq_true rfl) rfl (a_cons (c_v 21 rfl rfl) a_nil) (fun _ => rfl) rfl)) (show BlkOk law_rest1_N d__law_rest1.scope _ _ from blk_by (by decide +kernel)) (fun z => (tg_blk ye.ok z 11 rfl)) (fun _ (x55 : Txt) _ _ => (c_tup2 (a_cons (c_v 11 rfl rfl) (a_cons (c_cntL ye.ok.blk (c_l (c_v 21 rfl rfl)) (c_v 11 rfl rfl)) a_nil))))))))) ?_ ?_ (by exact h)
  · intro h
    refine s_ret (R := fun (v56 : Bool) => Q v56) c_bl (by exact h) ?_
    intro v56 h
    try dsimp only
    exact ⟨⟨0, rfl⟩, _, rfl, h⟩
  intro h
  refine ws_nil ?_
  refine s_asg (R := fun (marks57 : (List (T3 Int Int Txt))) => (law_rest1_w11 words1 counts3 word5 many50 runs52 marks57 Q)) 22 ye.ok rfl (c_list (s_nil (α := (T3 Int Int Txt)))) ?_ (by exact h)
  intro marks57 h
  try dsimp only
  show Ws _ (⟨[some (raw (.ref q0)), some (pu words1), some (pu size2), some (pu counts3), some (pu steps4), some (pu word5), some (pu mine6), some (pu shares7), some (pu smooth8), some (pu worst11), j29, none, some (pu length17), some (pu rows30), none, none, none, some (pu more40), none, none, some (pu many50), some (pu runs52), some (pu marks57), none, none, none, none], [(q0, dicec)]⟩ : DSt) _ _
  refine s_for (Z := (List (T3 Int Int Txt))) (J := Option Pv × Option Pv × Option Pv) (Body := (fun (x59 : Txt) (z60 : (List (T3 Int Int Txt))) (nx62 : (List (T3 Int Int Txt)) → Prop) => (law_rest1_w5 word5 many50 runs52 x59 nx62 z60 Q))) (Rest := (fun (z72 : (List (T3 Int Int Txt))) => (law_rest1_w10 words1 counts3 word5 many50 z72 Q))) (.n 11) (fun (z60 : (List (T3 Int Int Txt))) (j61 : Option Pv × Option Pv × Option Pv) => (⟨[some (raw (.ref q0)), some (pu words1), some (pu size2), some (pu counts3), some (pu steps4), some (pu word5), some (pu mine6), some (pu shares7), some (pu smooth8), some (pu worst11), j29, j61.1, some (pu length17), some (pu rows30), none, none, none, some (pu more40), none, none, some (pu many50), some (pu runs52), some (pu (z60 : (List (T3 Int Int Txt)))), j61.2.1, j61.2.2, none, none], [(q0, dicec)]⟩ : DSt)) marks57 (none, none, none) ye.ok (i_list (c_call (w := law_unlike_W) 0 ye G_law_unlike (Nat.le_of_ble_eq_true rfl) rfl (a_cons (c_v 1 rfl rfl) a_nil) (fun _ => rfl) rfl)) (tg_nm ye.ok.nd 11 rfl) rfl ?_ ?_ (by exact h)
  · intro x59 marks63 j61 nx62 h
    try dsimp only
    show Ws _ (⟨[some (raw (.ref q0)), some (pu words1), some (pu size2), some (pu counts3), some (pu steps4), some (pu word5), some (pu mine6), some (pu shares7), some (pu smooth8), some (pu worst11), j29, some (pu x59), some (pu length17), some (pu rows30), none, none, none, some (pu more40), none, none, some (pu many50), some (pu runs52), some (pu marks63), j61.2.1, j61.2.2, none, none], [(q0, dicec)]⟩ : DSt) _ _
    refine s_asg (R := fun (there65 : (List Txt)) => (law_rest1_w4 word5 many50 runs52 x59 nx62 marks63 there65 Q)) 23 ye.ok rfl (c_L ye.ok (l_lc0 (.n 10) [("k", 10)] (fun (x64 : Int) => (cutD x59 (some x64) (some (x64 + many50)))) ye.ok (i_range1 ye.ok B (by rfl) (c_add (c_sub (c_lenS B (by rfl) (c_v 11 rfl rfl)) (c_v 20 rfl rfl)) c_int)) (show BlkOk law_rest1_N d__law_rest1.scope _ _ from blk_by (by decide +kernel)) (fun z => (tg_blk ye.ok z 10 rfl)) (fun _ (x64 : Int) _ _ => (c_slS (c_v 11 rfl rfl) (o_at (c_v 10 rfl rfl)) (o_at (c_add (c_v 10 rfl rfl) (c_v 20 rfl rfl))))))) ?_ (by exact h)
    intro there65 h
    try dsimp only
    show Ws _ (⟨[some (raw (.ref q0)), some (pu words1), some (pu size2), some (pu counts3), some (pu steps4), some (pu word5), some (pu mine6), some (pu shares7), some (pu smooth8), some (pu worst11), j29, some (pu x59), some (pu length17), some (pu rows30), none, none, none, some (pu more40), none, none, some (pu many50), some (pu runs52), some (pu marks63), some (pu there65), j61.2.2, none, none], [(q0, dicec)]⟩ : DSt) _ _
    refine s_asg (R := fun (shared68 : Int) => (law_rest1_w3 word5 many50 runs52 x59 nx62 marks63 there65 shared68 Q)) 24 ye.ok rfl (c_sum ye.ok B (by rfl) (c_l (c_L ye.ok (l_lc0 (.n 25) [("part", 25)] (fun (x67 : Txt) => (min (cnt runs52 x67 : Int) (cnt there65 x67 : Int))) ye.ok (i_list (c_call (w := law_unlike_W) 0 ye G_law_unlike (Nat.le_of_ble_eq_true rfl) rfl (a_cons (c_v 21 rfl rfl) a_nil) (fun _ => rfl) rfl)) (show BlkOk law_rest1_N d__law_rest1.scope _ _ from blk_by (by decide +kernel)) (fun z => (tg_blk ye.ok z 25 rfl)) (fun _ (x67 : Txt) _ _ => (c_min2 ye.ok.blk B (by rfl) (c_cntL ye.ok.blk (c_l (c_v 21 rfl rfl)) (c_v 25 rfl rfl)) (c_cntL ye.ok.blk (c_l (c_v 23 rfl rfl)) (c_v 25 rfl rfl)))))))) ?_ (by exact h)
    intro shared68 h
    try dsimp only
    show Ws _ (⟨[some (raw (.ref q0)), some (pu words1), some (pu size2), some (pu counts3), some (pu steps4), some (pu word5), some (pu mine6), some (pu shares7), some (pu smooth8), some (pu worst11), j29, some (pu x59), some (pu length17), some (pu rows30), none, none, none, some (pu more40), none, none, some (pu many50), some (pu runs52), some (pu marks63), some (pu there65), some (pu shared68), none, none], [(q0, dicec)]⟩ : DSt) _ _
    refine s_if (B := Q false) (C := (law_rest1_w2 runs52 x59 nx62 marks63 there65 shared68)) (t_k (k_ne ye.ok (c_call (w := run_likeness_W) 0 ye G_run_likeness (Nat.le_of_ble_eq_true rfl) rfl (a_cons (c_v 5 rfl rfl) (a_cons (c_v 11 rfl rfl) (a_cons (c_v 20 rfl rfl) a_nil))) (fun _ => rfl) rfl) (c_tup2 (a_cons (c_mul c_int (c_v 24 rfl rfl)) (a_cons (c_add (c_lenL B (by rfl) (c_l (c_v 21 rfl rfl))) (c_lenL B (by rfl) (c_l (c_v 23 rfl rfl)))) a_nil))))) ?_ ?_ (by exact h)
    · intro h
      refine s_ret (R := fun (v70 : Bool) => Q v70) c_bl (by exact h) ?_
      intro v70 h
      try dsimp only
      exact ⟨⟨0, rfl⟩, _, rfl, h⟩
    intro h
    refine ws_nil ?_
    refine s_asg (R := fun (marks71 : (List (T3 Int Int Txt))) => nx62 marks71) 22 ye.ok rfl (c_catL (c_l (c_v 22 rfl rfl)) (c_l (c_ifP (u := [(PySem.W.T3.mk ((2 : Int) * shared68) ((runs52.length : Int) + (there65.length : Int)) x59)]) (w := ([] : List (T3 Int Int Txt))) (t_k (k_gt (c_v 24 rfl rfl) c_int)) (c_list (s_cons (c_tup3 (a_cons (c_mul c_int (c_v 24 rfl rfl)) (a_cons (c_add (c_lenL B (by rfl) (c_l (c_v 21 rfl rfl))) (c_lenL B (by rfl) (c_l (c_v 23 rfl rfl)))) (a_cons (c_v 11 rfl rfl) a_nil)))) (s_nil))) (c_list (s_nil (α := (T3 Int Int Txt))))))) ?_ (by exact h)
    intro marks71 h
    try dsimp only
    show Ws _ (⟨[some (raw (.ref q0)), some (pu words1), some (pu size2), some (pu counts3), some (pu steps4), some (pu word5), some (pu mine6), some (pu shares7), some (pu smooth8), some (pu worst11), j29, some (pu x59), some (pu length17), some (pu rows30), none, none, none, some (pu more40), none, none, some (pu many50), some (pu runs52), some (pu marks71), some (pu there65), some (pu shared68), none, none], [(q0, dicec)]⟩ : DSt) _ _
    exact ws_nil ⟨marks71, (some (pu x59), some (pu there65), some (pu shared68)), rfl, h⟩
  intro marks74 j73 h
  try dsimp only
  show Ws _ (⟨[some (raw (.ref q0)), some (pu words1), some (pu size2), some (pu counts3), some (pu steps4), some (pu word5), some (pu mine6), some (pu shares7), some (pu smooth8), some (pu worst11), j29, j73.1, some (pu length17), some (pu rows30), none, none, none, some (pu more40), none, none, some (pu many50), some (pu runs52), some (pu marks74), j73.2.1, j73.2.2, none, none], [(q0, dicec)]⟩ : DSt) _ _
  refine s_asgL (R := fun (best77 : (List Txt)) => (law_rest1_w9 words1 counts3 word5 many50 best77 Q)) 26 ye.ok rfl (l_lc (.n 15) [("row", 15)] (fun (x75 : (T3 Int Int Txt)) => (decide (((marks74.filter (fun (x76 : (T3 Int Int Txt)) => (decide ((x75.a * x76.b) < (x76.a * x75.b))))).map (fun (x76 : (T3 Int Int Txt)) => x76)) = ([] : List (T3 Int Int Txt))))) (fun (x75 : (T3 Int Int Txt)) => x75.c) ye.ok (i_list (c_v 22 rfl rfl)) (show BlkOk law_rest1_N d__law_rest1.scope _ _ from blk_by (by decide +kernel)) (fun z => (tg_blk ye.ok z 15 rfl)) (fun _ (x75 : (T3 Int Int Txt)) _ _ => ts_one (t_k (k_eqL ye.ok.blk (c_l (c_L ye.ok.blk (l_lc (.n 11) [("one", 11)] (fun (x76 : (T3 Int Int Txt)) => (decide ((x75.a * x76.b) < (x76.a * x75.b)))) (fun (x76 : (T3 Int Int Txt)) => x76) ye.ok.blk (i_list (c_v 22 rfl rfl)) (blk_by (by first | decide +kernel | rfl)) (fun z => (tg_blk ye.ok.blk z 11 rfl)) (fun _ (x76 : (T3 Int Int Txt)) _ _ => ts_one (t_k (k_gt (c_mul (c_t3a (c_v 11 rfl rfl)) (c_t3b (c_v 15 rfl rfl))) (c_mul (c_t3a (c_v 15 rfl rfl)) (c_t3b (c_v 11 rfl rfl)))))) (fun _ (x76 : (T3 Int Int Txt)) _ _ => (c_v 11 rfl rfl))))) (c_l (c_list (s_nil (α := (T3 Int Int Txt)))))))) (fun _ (x75 : (T3 Int Int Txt)) _ _ => (c_t3c (c_v 15 rfl rfl)))) ?_ (by exact h)
  intro best77 h
  try dsimp only
  show Ws _ (⟨[some (raw (.ref q0)), some (pu words1), some (pu size2), some (pu counts3), some (pu steps4), some (pu word5), some (pu mine6), some (pu shares7), some (pu smooth8), some (pu worst11), j29, j73.1, some (pu length17), some (pu rows30), none, none, none, some (pu more40), none, none, some (pu many50), some (pu runs52), some (pu marks74), j73.2.1, j73.2.2, none, some (pu best77)], [(q0, dicec)]⟩ : DSt) _ _
  refine s_if (B := Q false) (C := (law_rest1_w8 counts3 Q)) (t_k (k_ne ye.ok (c_told 4 id id toldT (ok_told L FD_told) (told_tells L.d) (tbl _ (List.mem_of_getElem? (i := 4) rfl)) ye.ok (Nat.le_of_ble_eq_true rfl) rfl (show LamX.LamS d__law_rest1.scope _ from LamX.lamS_by (by decide +kernel)) (fun _ _ _ _ h => h) (fun _ _ _ _ h => h) (fun z E_ ye' => (c_call (w := most_like_W) 0 ye' G_most_like (Nat.le_of_ble_eq_true rfl) rfl (a_cons (c_v 1 rfl rfl) (a_cons (c_v 5 rfl rfl) (a_cons (c_v 20 rfl rfl) a_nil))) (fun _ => rfl) rfl))) (c_ifP (u := (ixD best77 (0 : Int))) (w := (tx "no way")) (t_k (k_neL ye.ok (c_l (c_v 26 rfl rfl)) (c_l (c_list (s_nil (α := Txt)))))) (c_ixL (c_l (c_v 26 rfl rfl)) c_int) c_tx))) ?_ ?_ (by exact h)
  · intro h
    refine s_ret (R := fun (v80 : Bool) => Q v80) c_bl (by exact h) ?_
    intro v80 h
    try dsimp only
    exact ⟨⟨0, rfl⟩, _, rfl, h⟩
  intro h
  refine ws_nil ?_
  refine s_if (B := Q false) (C := (law_rest1_w7 counts3 Q)) (t_w (w_or (t_k (k_ne ye.ok (c_call (w := lowest_W) 0 ye G_lowest (Nat.le_of_ble_eq_true rfl) rfl (a_cons c_int (a_cons c_int a_nil)) (fun _ => rfl) rfl) (c_tup2 (a_cons c_int (a_cons c_int a_nil))))) (w_or1 (t_k (k_neT (γ := CountsV) ye.ok CM_Counts (c_told 6 (Sum.inl : CountsV → (CountsV ⊕ Txt)) (Sum.inr : Txt → (CountsV ⊕ Txt)) toldT (ok_told L FD_told) (told_tells L.d) (tbl _ (List.mem_of_getElem? (i := 4) rfl)) ye.ok (Nat.le_of_ble_eq_true rfl) rfl (show LamX.LamS d__law_rest1.scope _ from LamX.lamS_by (by decide +kernel)) (fun _ _ _ _ h => h) (fun _ _ _ _ h => h) (fun z E_ ye' => (c_make (γ := CountsV) (w := Counts_init_W) 0 ye' G_Counts_init (Nat.le_of_ble_eq_true rfl) rfl (a_cons (c_list (s_nil (α := Txt))) (a_cons c_int a_nil)) (fun _ => rfl) rfl))) c_tx))))) ?_ ?_ (by exact h)
  · intro h
    refine s_ret (R := fun (v84 : Bool) => Q v84) c_bl (by exact h) ?_
    intro v84 h
    try dsimp only
    exact ⟨⟨0, rfl⟩, _, rfl, h⟩
  intro h
  refine ws_nil ?_
  refine s_if (B := Q false) (C := (law_rest1_w6 Q)) (t_k (k_neT (γ := CountsV) ye.ok CM_Counts (c_told 7 (Sum.inl : CountsV → (CountsV ⊕ Txt)) (Sum.inr : Txt → (CountsV ⊕ Txt)) toldT (ok_told L FD_told) (told_tells L.d) (tbl _ (List.mem_of_getElem? (i := 4) rfl)) ye.ok (Nat.le_of_ble_eq_true rfl) rfl (show LamX.LamS d__law_rest1.scope _ from LamX.lamS_by (by decide +kernel)) (fun _ _ _ _ h => h) (fun _ _ _ _ h => h) (fun z E_ ye' => (c_meth (w := Counts_both_W) 0 ye' G_Counts_both (He.cls_ok (L.d.fact 49 rfl)) (Nat.le_of_ble_eq_true rfl) (c_v 3 rfl rfl) (a_cons (c_make (γ := CountsV) (w := Counts_init_W) 0 ye' G_Counts_init (Nat.le_of_ble_eq_true rfl) rfl (a_cons (c_list (s_nil (α := Txt))) (a_cons c_int a_nil)) (fun _ => rfl) rfl) a_nil) (fun _ => rfl) rfl))) c_tx)) ?_ ?_ (by exact h)
  · intro h
    refine s_ret (R := fun (v88 : Bool) => Q v88) c_bl (by exact h) ?_
    intro v88 h
    try dsimp only
    exact ⟨⟨0, rfl⟩, _, rfl, h⟩
  intro h
  refine ws_nil ?_
  refine s_if (B := Q false) (C := Q true) (t_not (t_v (fun _ => rfl) (c_call0 (w := law_cases1_W) 0 ye G_law_cases1 (Nat.le_of_ble_eq_true rfl) rfl rfl rfl))) ?_ ?_ (by exact h)
  · intro h
    refine s_ret (R := fun (v90 : Bool) => Q v90) c_bl (by exact h) ?_
    intro v90 h
    try dsimp only
    exact ⟨⟨0, rfl⟩, _, rfl, h⟩
  intro h
  refine ws_nil ?_
  refine s_ret (R := fun (v91 : Bool) => Q v91) c_bl (by exact h) ?_
  intro v91 h
  try dsimp only
  exact ⟨⟨0, rfl⟩, _, rfl, h⟩
abbrev law_rest2_N : List Str := ["dice", "words", "size", "counts", "steps", "word", "mine", "shares", "smooth", "start", "run", "signs", "begin", "sign", "due", "many", "made", "told", "k", "best"]
theorem law_rest2_S : FnScope law_rest2_N ["dice", "words", "size", "counts", "steps", "word", "mine", "shares", "smooth"] d__law_rest2.scope := ⟨rfl, rfl, rfl, by decide +kernel, rfl, by decide +kernel, by decide +kernel⟩
theorem ok_law_rest2 (B : Bis mg) (L : LK w K mg base fa fn tq) {fd : FuncData} (F1 : Fd K d__law_rest2 ["dice", "words", "size", "counts", "steps", "word", "mine", "shares", "smooth"] fd) {fd_told : FuncData} (FD_told : Fd K d__law_told ["what"] fd_told) (G_law_word : Df P w K mg base (tbOf K tq) 2 "_law_word" ["dice", "letters", "least", "most"] (spD law_word_W)) (G_law_unlike : Df P w K mg base (tbOf K tq) 1 "_law_unlike" ["words"] (spF K law_unlike_W)) (G_Counts_next_letters : Mt P w K mg base (tbOf K tq) 4 (He.ga K "Counts") "next_letters" ["self", "start"] (spF K Counts_next_letters_W)) (G_Counts_likeliest : Mt P w K mg base (tbOf K tq) 5 (He.ga K "Counts") "likeliest" ["self", "most"] (spF K Counts_likeliest_W)) (G_law_rest1 : Df P w K mg base (tbOf K tq) 10 "_law_rest1" ["dice", "words", "size", "counts", "steps", "word", "mine", "shares", "smooth"] (spD law_rest1_W)) : FnOk P w K mg base (L2.CX P w) 11 (He.fAd K d__law_rest2.at_) fd ["dice", "words", "size", "counts", "steps", "word", "mine", "shares", "smooth"] (toSp K (tbOf K tq) 9 (spD law_rest2_W)) := by
  refine fn_D (k := 10) none L F1 law_rest2_S law_rest2_W noneNo (fun _ => rfl) ?_
  intro q0 z t Q h ye tbl
  obtain ⟨words1, size2, counts3, steps4, word5, mine6, shares7, smooth8, ⟨⟩⟩ := t
  show Ws _ (⟨[some (raw (.ref q0)), some (pu words1), some (pu size2), some (pu counts3), some (pu steps4), some (pu word5), some (pu mine6), some (pu shares7), some (pu smooth8), none, none, none, none, none, none, none, none, none, none, none], [(q0, dicec)]⟩ : DSt) _ _
  refine s_asg (R := fun (start10 : Txt) => (law_rest2_w13 words1 size2 counts3 steps4 word5 mine6 shares7 smooth8 start10 Q)) 9 ye.ok rfl (c_callD 0 0 ye.ok G_law_word (Nat.le_of_ble_eq_true rfl) rfl (a_cons c_tx (a_cons c_int (a_cons c_int a_nil))) rfl rfl rfl (fun _ => rfl)) ?_ (by exact h)
  intro start10 h
  try dsimp only
  show Ws _ (⟨[some (raw (.ref q0)), some (pu words1), some (pu size2), some (pu counts3), some (pu steps4), some (pu word5), some (pu mine6), some (pu shares7), some (pu smooth8), some (pu start10), none, none, none, none, none, none, none, none, none, none], [(q0, dicec)]⟩ : DSt) _ _
  refine s_asg (R := fun (run11 : Txt) => (law_rest2_w12 words1 size2 counts3 steps4 word5 mine6 shares7 smooth8 start10 run11 Q)) 10 ye.ok rfl (c_ifP (u := (cutD ((repS (tx ".") size2) ++ start10) (some ((start10.length : Int) + (1 : Int))) none)) (w := (tx "")) (t_k (k_gt (c_v 2 rfl rfl) c_int)) (c_slS (c_catS (c_mulS c_tx (c_v 2 rfl rfl)) (c_v 9 rfl rfl)) (o_at (c_add (c_lenS B (by rfl) (c_v 9 rfl rfl)) c_int)) o_no) c_tx) ?_ (by exact h)
  intro run11 h
  try dsimp only
  show Ws _ (⟨[some (raw (.ref q0)), some (pu words1), some (pu size2), some (pu counts3), some (pu steps4), some (pu word5), some (pu mine6), some (pu shares7), some (pu smooth8), some (pu start10), some (pu run11), none, none, none, none, none, none, none, none, none], [(q0, dicec)]⟩ : DSt) _ _
  refine s_asg (R := fun (signs13 : (List Txt)) => (law_rest2_w11 words1 size2 counts3 steps4 word5 mine6 shares7 smooth8 start10 run11 signs13 Q)) 11 ye.ok rfl (c_L ye.ok (l_lc (.p (.n 12) (.n 13)) [("begin", 12), ("sign", 13)] (fun (x12 : (Txt × Txt)) => (decide (x12.1 = run11))) (fun (x12 : (Txt × Txt)) => x12.2) ye.ok (i_list (c_v 4 rfl rfl)) (show BlkOk law_rest2_N d__law_rest2.scope _ _ from blk_by (by decide +kernel)) (fun z => (tg_pair ye.ok.blk.calm (tg_blk ye.ok z 12 rfl) (tg_blk ye.ok z 13 rfl))) (fun _ (x12 : (Txt × Txt)) _ _ => ts_one (t_k (k_eq ye.ok.blk (c_v 12 rfl rfl) (c_v 10 rfl rfl)))) (fun _ (x12 : (Txt × Txt)) _ _ => (c_v 13 rfl rfl)))) ?_ (by exact h)
  intro signs13 h
  try dsimp only
  show Ws _ (⟨[some (raw (.ref q0)), some (pu words1), some (pu size2), some (pu counts3), some (pu steps4), some (pu word5), some (pu mine6), some (pu shares7), some (pu smooth8), some (pu start10), some (pu run11), some (pu signs13), none, none, none, none, none, none, none, none], [(q0, dicec)]⟩ : DSt) _ _
  refine s_asg (R := fun (due16 : (List (Int × Txt))) => (law_rest2_w10 words1 size2 counts3 steps4 word5 mine6 shares7 smooth8 start10 run11 signs13 due16 Q)) 14 ye.ok rfl (c_sorted ye.ok B (by rfl) (c_l (c_L ye.ok (l_lc0 (.n 13) [("sign", 13)] (fun (x15 : Txt) => (((0 : Int) - (cnt signs13 x15 : Int)), x15)) ye.ok (i_list (c_call (w := law_unlike_W) 0 ye G_law_unlike (Nat.le_of_ble_eq_true rfl) rfl (a_cons (c_v 11 rfl rfl) a_nil) (fun _ => rfl) rfl)) (show BlkOk law_rest2_N d__law_rest2.scope _ _ from blk_by (by decide +kernel)) (fun z => (tg_blk ye.ok z 13 rfl)) (fun _ (x15 : Txt) _ _ => (c_tup2 (a_cons (c_sub c_int (c_cntL ye.ok.blk (c_l (c_v 11 rfl rfl)) (c_v 13 rfl rfl))) (a_cons (c_v 13 rfl rfl) a_nil)))))))) ?_ (by exact h)
  intro due16 h
  try dsimp only
  show Ws _ (⟨[some (raw (.ref q0)), some (pu words1), some (pu size2), some (pu counts3), some (pu steps4), some (pu word5), some (pu mine6), some (pu shares7), some (pu smooth8), some (pu start10), some (pu run11), some (pu signs13), none, none, some (pu due16), none, none, none, none, none], [(q0, dicec)]⟩ : DSt) _ _
  refine s_if (B := Q false) (C := (law_rest2_w9 words1 size2 counts3 steps4 word5 mine6 shares7 smooth8 run11 signs13 Q)) (t_k (k_neL ye.ok (c_l (c_listH B (by rfl) (c_meth (w := Counts_next_letters_W) 0 ye G_Counts_next_letters (He.cls_ok (L.d.fact 49 rfl)) (Nat.le_of_ble_eq_true rfl) (c_v 3 rfl rfl) (a_cons (c_v 9 rfl rfl) a_nil) (fun _ => rfl) rfl))) (c_l (c_L ye.ok (l_lc0 (.p (.n 15) (.n 13)) [("many", 15), ("sign", 13)] (fun (x18 : (Int × Txt)) => (x18.2, ((0 : Int) - x18.1))) ye.ok (i_list (c_v 14 rfl rfl)) (show BlkOk law_rest2_N d__law_rest2.scope _ _ from blk_by (by decide +kernel)) (fun z => (tg_pair ye.ok.blk.calm (tg_blk ye.ok z 15 rfl) (tg_blk ye.ok z 13 rfl))) (fun _ (x18 : (Int × Txt)) _ _ => (c_tup2 (a_cons (c_v 13 rfl rfl) (a_cons (c_sub c_int (c_v 15 rfl rfl)) a_nil))))))))) ?_ ?_ (by exact h)
  · intro h
    refine s_ret (R := fun (v19 : Bool) => Q v19) c_bl (by exact h) ?_
    intro v19 h
    try dsimp only
    exact ⟨⟨0, rfl⟩, _, rfl, h⟩
  intro h
  refine ws_nil ?_
  refine s_asgT (R := fun (u20 : (Txt × Txt)) => (law_rest2_w8 words1 size2 counts3 steps4 word5 mine6 shares7 smooth8 run11 signs13 u20 Q)) (.p (.n 16) (.n 17)) (tg_pair ye.ok.calm (tg_nm ye.ok.nd 16 rfl) (tg_nm ye.ok.nd 17 rfl)) (c_tup2 (a_cons c_tx (a_cons c_tx a_nil))) ?_ (by exact h)
  intro u20 h
  try dsimp only
  show Ws _ (⟨[some (raw (.ref q0)), some (pu words1), some (pu size2), some (pu counts3), some (pu steps4), some (pu word5), some (pu mine6), some (pu shares7), some (pu smooth8), some (pu start10), some (pu run11), some (pu signs13), none, none, some (pu due16), none, some (pu u20.1), some (pu u20.2), none, none], [(q0, dicec)]⟩ : DSt) _ _
  refine s_for (Z := Txt × (List Txt) × Txt × Txt) (J := Option Pv × Option Pv) (Body := (fun (x21 : Int) (z22 : Txt × (List Txt) × Txt × Txt) (nx24 : Txt × (List Txt) × Txt × Txt → Prop) => (law_rest2_w5 size2 steps4 nx24 z22.2.2.1 z22.2.2.2))) (Rest := (fun (z40 : Txt × (List Txt) × Txt × Txt) => (law_rest2_w7 words1 size2 counts3 steps4 word5 mine6 shares7 smooth8 z40.2.2.2 Q))) (.n 18) (fun (z22 : Txt × (List Txt) × Txt × Txt) (j23 : Option Pv × Option Pv) => (⟨[some (raw (.ref q0)), some (pu words1), some (pu size2), some (pu counts3), some (pu steps4), some (pu word5), some (pu mine6), some (pu shares7), some (pu smooth8), some (pu start10), some (pu (z22.1 : Txt)), some (pu (z22.2.1 : (List Txt))), none, none, some (pu due16), none, some (pu (z22.2.2.1 : Txt)), some (pu (z22.2.2.2 : Txt)), j23.1, j23.2], [(q0, dicec)]⟩ : DSt)) (run11, signs13, u20.1, u20.2) (none, none) ye.ok (i_range1 ye.ok B (by rfl) c_int) (tg_nm ye.ok.nd 18 rfl) rfl ?_ ?_ (by exact h)
  · intro x21 z22 j23 nx24 h
    try dsimp only
    obtain ⟨run25, signs26, made27, told28⟩ := z22
    show Ws _ (⟨[some (raw (.ref q0)), some (pu words1), some (pu size2), some (pu counts3), some (pu steps4), some (pu word5), some (pu mine6), some (pu shares7), some (pu smooth8), some (pu start10), some (pu run25), some (pu signs26), none, none, some (pu due16), none, some (pu made27), some (pu told28), some (pu x21), j23.2], [(q0, dicec)]⟩ : DSt) _ _
    refine s_asg (R := fun (run29 : Txt) => (law_rest2_w4 steps4 nx24 made27 told28 run29)) 10 ye.ok rfl (c_ifP (u := (cutD ((repS (tx ".") size2) ++ made27) (some ((made27.length : Int) + (1 : Int))) none)) (w := (tx "")) (t_k (k_gt (c_v 2 rfl rfl) c_int)) (c_slS (c_catS (c_mulS c_tx (c_v 2 rfl rfl)) (c_v 16 rfl rfl)) (o_at (c_add (c_lenS B (by rfl) (c_v 16 rfl rfl)) c_int)) o_no) c_tx) ?_ (by exact h)
    intro run29 h
    try dsimp only
    show Ws _ (⟨[some (raw (.ref q0)), some (pu words1), some (pu size2), some (pu counts3), some (pu steps4), some (pu word5), some (pu mine6), some (pu shares7), some (pu smooth8), some (pu start10), some (pu run29), some (pu signs26), none, none, some (pu due16), none, some (pu made27), some (pu told28), some (pu x21), j23.2], [(q0, dicec)]⟩ : DSt) _ _
    refine s_asg (R := fun (signs31 : (List Txt)) => (law_rest2_w3 nx24 made27 told28 run29 signs31)) 11 ye.ok rfl (c_L ye.ok (l_lc (.p (.n 12) (.n 13)) [("begin", 12), ("sign", 13)] (fun (x30 : (Txt × Txt)) => (decide (x30.1 = run29))) (fun (x30 : (Txt × Txt)) => x30.2) ye.ok (i_list (c_v 4 rfl rfl)) (show BlkOk law_rest2_N d__law_rest2.scope _ _ from blk_by (by decide +kernel)) (fun z => (tg_pair ye.ok.blk.calm (tg_blk ye.ok z 12 rfl) (tg_blk ye.ok z 13 rfl))) (fun _ (x30 : (Txt × Txt)) _ _ => ts_one (t_k (k_eq ye.ok.blk (c_v 12 rfl rfl) (c_v 10 rfl rfl)))) (fun _ (x30 : (Txt × Txt)) _ _ => (c_v 13 rfl rfl)))) ?_ (by exact h)
    intro signs31 h
    try dsimp only
    show Ws _ (⟨[some (raw (.ref q0)), some (pu words1), some (pu size2), some (pu counts3), some (pu steps4), some (pu word5), some (pu mine6), some (pu shares7), some (pu smooth8), some (pu start10), some (pu run29), some (pu signs31), none, none, some (pu due16), none, some (pu made27), some (pu told28), some (pu x21), j23.2], [(q0, dicec)]⟩ : DSt) _ _
    refine s_asg (R := fun (best33 : Txt) => (law_rest2_w2 nx24 made27 told28 run29 signs31 best33)) 19 ye.ok rfl (c_snd (c_min ye.ok B (by rfl) (c_l (c_catL (c_l (c_L ye.ok (l_lc0 (.n 13) [("sign", 13)] (fun (x32 : Txt) => (((0 : Int) - (cnt signs31 x32 : Int)), x32)) ye.ok (i_list (c_v 11 rfl rfl)) (show BlkOk law_rest2_N d__law_rest2.scope _ _ from blk_by (by decide +kernel)) (fun z => (tg_blk ye.ok z 13 rfl)) (fun _ (x32 : Txt) _ _ => (c_tup2 (a_cons (c_sub c_int (c_cntL ye.ok.blk (c_l (c_v 11 rfl rfl)) (c_v 13 rfl rfl))) (a_cons (c_v 13 rfl rfl) a_nil))))))) (c_l (c_list (s_cons (c_tup2 (a_cons c_int (a_cons c_tx a_nil))) (s_nil)))))))) ?_ (by exact h)
    intro best33 h
    try dsimp only
    show Ws _ (⟨[some (raw (.ref q0)), some (pu words1), some (pu size2), some (pu counts3), some (pu steps4), some (pu word5), some (pu mine6), some (pu shares7), some (pu smooth8), some (pu start10), some (pu run29), some (pu signs31), none, none, some (pu due16), none, some (pu made27), some (pu told28), some (pu x21), some (pu best33)], [(q0, dicec)]⟩ : DSt) _ _
    refine s_ifJ (Z := Txt) (J := Unit) (Rest := (fun (z34 : Txt) => (law_rest2_w1 nx24 made27 run29 signs31 best33 z34))) (B := fun nx36 => nx36 made27) (C := fun nx36 => nx36 told28) (fun (z34 : Txt) (j35 : Unit) => (⟨[some (raw (.ref q0)), some (pu words1), some (pu size2), some (pu counts3), some (pu steps4), some (pu word5), some (pu mine6), some (pu shares7), some (pu smooth8), some (pu start10), some (pu run29), some (pu signs31), none, none, some (pu due16), none, some (pu made27), some (pu (z34 : Txt)), some (pu x21), some (pu best33)], [(q0, dicec)]⟩ : DSt)) (t_w (w_andP (y := (decide (best33 = (tx ".")))) (t_k (k_eq ye.ok (c_v 17 rfl rfl) c_tx)) (w_and1 (t_k (k_eq ye.ok (c_v 19 rfl rfl) c_tx))))) ?_ ?_ ?_ (by exact h)
    · intro nx36 h
      try dsimp only
      refine s_asg (R := fun (told37 : Txt) => nx36 told37) 17 ye.ok rfl (c_v 16 rfl rfl) ?_ (by exact h)
      intro told37 h
      try dsimp only
      show Ws _ (⟨[some (raw (.ref q0)), some (pu words1), some (pu size2), some (pu counts3), some (pu steps4), some (pu word5), some (pu mine6), some (pu shares7), some (pu smooth8), some (pu start10), some (pu run29), some (pu signs31), none, none, some (pu due16), none, some (pu made27), some (pu told37), some (pu x21), some (pu best33)], [(q0, dicec)]⟩ : DSt) _ _
      exact ws_nil ⟨told37, (), rfl, h⟩
    · intro nx36 h
      try dsimp only
      exact ws_nil ⟨told28, (), rfl, h⟩
    intro told38 j35 h
    try dsimp only
    show Ws _ (⟨[some (raw (.ref q0)), some (pu words1), some (pu size2), some (pu counts3), some (pu steps4), some (pu word5), some (pu mine6), some (pu shares7), some (pu smooth8), some (pu start10), some (pu run29), some (pu signs31), none, none, some (pu due16), none, some (pu made27), some (pu told38), some (pu x21), some (pu best33)], [(q0, dicec)]⟩ : DSt) _ _
    refine s_asg (R := fun (made39 : Txt) => nx24 (run29, signs31, made39, told38)) 16 ye.ok rfl (c_catS (c_v 16 rfl rfl) (c_v 19 rfl rfl)) ?_ (by exact h)
    intro made39 h
    try dsimp only
    show Ws _ (⟨[some (raw (.ref q0)), some (pu words1), some (pu size2), some (pu counts3), some (pu steps4), some (pu word5), some (pu mine6), some (pu shares7), some (pu smooth8), some (pu start10), some (pu run29), some (pu signs31), none, none, some (pu due16), none, some (pu made39), some (pu told38), some (pu x21), some (pu best33)], [(q0, dicec)]⟩ : DSt) _ _
    exact ws_nil ⟨(run29, signs31, made39, told38), (some (pu x21), some (pu best33)), rfl, h⟩
  intro z40 j41 h
  try dsimp only
  obtain ⟨run42, signs43, made44, told45⟩ := z40
  show Ws _ (⟨[some (raw (.ref q0)), some (pu words1), some (pu size2), some (pu counts3), some (pu steps4), some (pu word5), some (pu mine6), some (pu shares7), some (pu smooth8), some (pu start10), some (pu run42), some (pu signs43), none, none, some (pu due16), none, some (pu made44), some (pu told45), j41.1, j41.2], [(q0, dicec)]⟩ : DSt) _ _
  refine s_if (B := Q false) (C := (law_rest2_w6 words1 size2 counts3 steps4 word5 mine6 shares7 smooth8 Q)) (t_k (k_ne ye.ok (c_told 5 id id toldT (ok_told L FD_told) (told_tells L.d) (tbl _ (List.mem_of_getElem? (i := 5) rfl)) ye.ok (Nat.le_of_ble_eq_true rfl) rfl (show LamX.LamS d__law_rest2.scope _ from LamX.lamS_by (by decide +kernel)) (fun _ _ _ _ h => h) (fun _ _ _ _ h => h) (fun z E_ ye' => (c_meth (w := Counts_likeliest_W) 0 ye' G_Counts_likeliest (He.cls_ok (L.d.fact 49 rfl)) (Nat.le_of_ble_eq_true rfl) (c_v 3 rfl rfl) (a_cons c_int a_nil) (fun _ => rfl) rfl))) (c_ifP (u := told45) (w := (tx "no way")) (t_k (k_neL ye.ok (c_l (c_v 1 rfl rfl)) (c_l (c_list (s_nil (α := Txt)))))) (c_v 17 rfl rfl) c_tx))) ?_ ?_ (by exact h)
  · intro h
    refine s_ret (R := fun (v48 : Bool) => Q v48) c_bl (by exact h) ?_
    intro v48 h
    try dsimp only
    exact ⟨⟨0, rfl⟩, _, rfl, h⟩
  intro h
  refine ws_nil ?_
  refine s_if (B := Q false) (C := Q true) (t_not (t_v (fun _ => rfl) (c_callD 0 0 ye.ok G_law_rest1 (Nat.le_of_ble_eq_true rfl) rfl (a_cons (c_v 1 rfl rfl) (a_cons (c_v 2 rfl rfl) (a_cons (c_v 3 rfl rfl) (a_cons (c_v 4 rfl rfl) (a_cons (c_v 5 rfl rfl) (a_cons (c_v 6 rfl rfl) (a_cons (c_v 7 rfl rfl) (a_cons (c_v 8 rfl rfl) a_nil)))))))) rfl rfl rfl (fun _ => rfl)))) ?_ ?_ (by exact h)
  · intro h
    refine s_ret (R := fun (v50 : Bool) => Q v50) c_bl (by exact h) ?_
    intro v50 h
    try dsimp only
    exact ⟨⟨0, rfl⟩, _, rfl, h⟩
  intro h
  refine ws_nil ?_
  refine s_ret (R := fun (v51 : Bool) => Q v51) c_bl (by exact h) ?_
  intro v51 h
  try dsimp only
  exact ⟨⟨0, rfl⟩, _, rfl, h⟩
abbrev law_N : List Str := ["script", "dice", "words", "size", "k", "counts", "steps", "word", "other", "mine", "shares", "one", "step", "start", "sign", "smooth", "a", "b", "top", "bottom", "first", "second"]
theorem law_S : FnScope law_N ["script"] d_law.scope := ⟨rfl, rfl, rfl, by decide +kernel, rfl, by decide +kernel, by decide +kernel⟩
theorem ok_law (B : Bis mg) (L : LK w K mg base fa fn tq) {fd : FuncData} (F1 : Fd K d_law ["script"] fd) (G_law_rounds : Df P w K mg base (tbOf K tq) 2 "_law_rounds" ["script", "most"] dRoundsA) (G_law_roll : Df P w K mg base (tbOf K tq) 1 "_law_roll" ["dice", "many"] (spD rollW)) (G_law_word : Df P w K mg base (tbOf K tq) 2 "_law_word" ["dice", "letters", "least", "most"] (spD law_word_W)) (G_Counts_init : Mkr P w K mg base (tbOf K tq) 5 "Counts" (He.ga K "Counts") ["self", "words", "size"] (spI K Counts_init_W)) (G_law_flat : Df P w K mg base (tbOf K tq) 1 "_law_flat" ["rows"] (spF K law_flat_W)) (G_law_steps : Df P w K mg base (tbOf K tq) 1 "_law_steps" ["word", "size"] (spF K law_steps_W)) (G_Counts_steps_along : Mt P w K mg base (tbOf K tq) 1 (He.ga K "Counts") "steps_along" ["self", "word"] (spF K Counts_steps_along_W)) (G_Counts_share : Mt P w K mg base (tbOf K tq) 1 (He.ga K "Counts") "share" ["self", "start", "sign"] (spF K Counts_share_W)) (G_Counts_smooth : Mt P w K mg base (tbOf K tq) 2 (He.ga K "Counts") "smooth" ["self", "start", "sign"] (spF K Counts_smooth_W)) (G_law_product : Df P w K mg base (tbOf K tq) 1 "_law_product" ["pairs"] (spF K law_product_W)) (G_Counts_chance : Mt P w K mg base (tbOf K tq) 2 (He.ga K "Counts") "chance" ["self", "word"] (spF K Counts_chance_W)) (G_law_same : Df P w K mg base (tbOf K tq) 1 "_law_same" ["share", "top", "bottom"] (spF K law_same_W)) (G_Counts_smooth_chance : Mt P w K mg base (tbOf K tq) 3 (He.ga K "Counts") "smooth_chance" ["self", "word"] (spF K Counts_smooth_chance_W)) (G_Counts_likelier : Mt P w K mg base (tbOf K tq) 4 (He.ga K "Counts") "likelier" ["self", "one", "other"] (spF K Counts_likelier_W)) (G_law_rest2 : Df P w K mg base (tbOf K tq) 11 "_law_rest2" ["dice", "words", "size", "counts", "steps", "word", "mine", "shares", "smooth"] (spD law_rest2_W)) : FnOk P w K mg base (L2.CX P w) 12 (He.fAd K d_law.at_) fd ["script"] (toSp K (tbOf K tq) 1 (spF K law_W)) := by
  refine fn_F (k := 11) none L F1 law_S law_W noneNo (fun _ => rfl) ?_
  intro z t Q E h ye tbl
  obtain ⟨script1, ⟨⟩⟩ := t
  show Ws _ (⟨[some (pu script1), none, none, none, none, none, none, none, none, none, none, none, none, none, none, none, none, none, none, none, none, none], []⟩ : DSt) _ _
  refine s_rounds (R := (law_w16 Q E)) 1 0 ye.ok G_law_rounds (Nat.le_of_ble_eq_true rfl) rfl rfl rfl (tg_nm ye.ok.nd 1 rfl) (c_v 0 rfl rfl) ?_ (by exact h)
  intro q2 h
  try dsimp only
  show Ws _ (⟨[some (pu script1), some (raw (.ref q2)), none, none, none, none, none, none, none, none, none, none, none, none, none, none, none, none, none, none, none, none], [(q2, dicec)]⟩ : DSt) _ _
  refine s_asgT (R := fun (u9 : ((List Txt) × Int)) => (law_w15 u9 Q E)) (.p (.n 2) (.n 3)) (tg_pair ye.ok.calm (tg_nm ye.ok.nd 2 rfl) (tg_nm ye.ok.nd 3 rfl)) (c_tup2 (a_cons (c_L ye.ok (l_lcN (.n 4) [("k", 4)] ye.ok (i_range1 ye.ok B (by rfl) (c_callD 1 0 ye.ok G_law_roll (Nat.le_of_ble_eq_true rfl) rfl (a_cons c_int a_nil) rfl rfl rfl (fun _ => rfl))) (show BlkOk law_N d_law.scope _ _ from blk_by (by decide +kernel)) (fun z => (tg_blk ye.ok z 4 rfl)) (fun _ (x4 : Int) _ _ => (c_callD 1 1 ye.ok.blk G_law_word (Nat.le_of_ble_eq_true rfl) rfl (a_cons c_tx (a_cons c_int (a_cons c_int a_nil))) rfl rfl rfl (fun _ => rfl))))) (a_cons (c_add c_int (c_callD 1 0 ye.ok G_law_roll (Nat.le_of_ble_eq_true rfl) rfl (a_cons c_int a_nil) rfl rfl rfl (fun _ => rfl))) a_nil))) ?_ (by exact h)
  intro u9 h
  try dsimp only
  show Ws _ (⟨[some (pu script1), some (raw (.ref q2)), some (pu u9.1), some (pu u9.2), none, none, none, none, none, none, none, none, none, none, none, none, none, none, none, none, none, none], [(q2, dicec)]⟩ : DSt) _ _
  refine s_asgT (R := fun (u15 : (CountsV × (List (Txt × Txt)))) => (law_w14 u9 u15 Q E)) (.p (.n 5) (.n 6)) (tg_pair ye.ok.calm (tg_nm ye.ok.nd 5 rfl) (tg_nm ye.ok.nd 6 rfl)) (c_tup2 (a_cons (c_make (γ := CountsV) (w := Counts_init_W) 1 ye G_Counts_init (Nat.le_of_ble_eq_true rfl) rfl (a_cons (c_v 2 rfl rfl) (a_cons (c_v 3 rfl rfl) a_nil)) (fun _ => rfl) rfl) (a_cons (c_call (w := law_flat_W) 1 ye G_law_flat (Nat.le_of_ble_eq_true rfl) rfl (a_cons (c_L ye.ok (l_lcX0 (.n 7) [("word", 7)] ye.ok (i_list (c_v 2 rfl rfl)) (show BlkOk law_N d_law.scope _ _ from blk_by (by decide +kernel)) (fun z => (tg_blk ye.ok z 7 rfl)) (fun _ (x11 : Txt) _ _ => (c_call (w := law_steps_W) 1 ye.blk G_law_steps (Nat.le_of_ble_eq_true rfl) rfl (a_cons (c_v 7 rfl rfl) (a_cons (c_v 3 rfl rfl) a_nil)) (fun _ => rfl) trivial)))) a_nil) (fun _ => rfl) rfl) a_nil))) ?_ (by exact h)
  intro u15 h
  try dsimp only
  show Ws _ (⟨[some (pu script1), some (raw (.ref q2)), some (pu u9.1), some (pu u9.2), none, some (pu u15.1), some (pu u15.2), none, none, none, none, none, none, none, none, none, none, none, none, none, none, none], [(q2, dicec)]⟩ : DSt) _ _
  refine s_par (R := fun (word18 : Txt) (other19 : Txt) => (law_w13 u9 u15 word18 other19 Q E)) 7 8 ye.ok rfl rfl (c_callD 1 0 ye.ok G_law_word (Nat.le_of_ble_eq_true rfl) rfl (a_cons c_tx (a_cons c_int (a_cons c_int a_nil))) rfl rfl rfl (fun _ => rfl)) (c_callD 1 0 ye.ok G_law_word (Nat.le_of_ble_eq_true rfl) rfl (a_cons c_tx (a_cons c_int (a_cons c_int a_nil))) rfl rfl rfl (fun _ => rfl)) ?_ (by exact h)
  intro word18 other19 h
  try dsimp only
  show Ws _ (⟨[some (pu script1), some (raw (.ref q2)), some (pu u9.1), some (pu u9.2), none, some (pu u15.1), some (pu u15.2), some (pu word18), some (pu other19), none, none, none, none, none, none, none, none, none, none, none, none, none], [(q2, dicec)]⟩ : DSt) _ _
  refine s_asg (R := fun (mine21 : (List (Txt × Txt))) => (law_w12 u9 u15 word18 other19 mine21 Q E)) 9 ye.ok rfl (c_call (w := law_steps_W) 1 ye G_law_steps (Nat.le_of_ble_eq_true rfl) rfl (a_cons (c_v 7 rfl rfl) (a_cons (c_v 3 rfl rfl) a_nil)) (fun _ => rfl) rfl) ?_ (by exact h)
  intro mine21 h
  try dsimp only
  show Ws _ (⟨[some (pu script1), some (raw (.ref q2)), some (pu u9.1), some (pu u9.2), none, some (pu u15.1), some (pu u15.2), some (pu word18), some (pu other19), some (pu mine21), none, none, none, none, none, none, none, none, none, none, none, none], [(q2, dicec)]⟩ : DSt) _ _
  refine s_if (B := Q false) (C := (law_w11 u9 u15 word18 other19 mine21 Q E)) (t_k (k_neL ye.ok (c_l (c_listH B (by rfl) (c_meth (w := Counts_steps_along_W) 1 ye G_Counts_steps_along (He.cls_ok (L.d.fact 49 rfl)) (Nat.le_of_ble_eq_true rfl) (c_v 5 rfl rfl) (a_cons (c_v 7 rfl rfl) a_nil) (fun _ => rfl) rfl))) (c_l (c_v 9 rfl rfl)))) ?_ ?_ (by exact h)
  · intro h
    refine s_ret (R := fun (v23 : Bool) => Q v23) c_bl (by exact h) ?_
    intro v23 h
    try dsimp only
    exact ⟨⟨1, rfl⟩, _, rfl, h⟩
  intro h
  refine ws_nil ?_
  refine s_asgL (R := fun (shares26 : (List (Int × Int))) => (law_w10 u9 u15 word18 other19 mine21 shares26 Q E)) 10 ye.ok rfl (l_lc0 (.n 12) [("step", 12)] (fun (x24 : (Txt × Txt)) => ((cnt u15.2 x24 : Int), (List.length ((u15.2.filter (fun (x25 : (Txt × Txt)) => (decide (x25.1 = x24.1)))).map (fun (x25 : (Txt × Txt)) => x25)) : Int))) ye.ok (i_list (c_v 9 rfl rfl)) (show BlkOk law_N d_law.scope _ _ from blk_by (by decide +kernel)) (fun z => (tg_blk ye.ok z 12 rfl)) (fun _ (x24 : (Txt × Txt)) _ _ => (c_tup2 (a_cons (c_cntL ye.ok.blk (c_l (c_v 6 rfl rfl)) (c_v 12 rfl rfl)) (a_cons (c_lenL B (by rfl) (c_l (c_L ye.ok.blk (l_lc (.n 11) [("one", 11)] (fun (x25 : (Txt × Txt)) => (decide (x25.1 = x24.1))) (fun (x25 : (Txt × Txt)) => x25) ye.ok.blk (i_list (c_v 6 rfl rfl)) (blk_by (by first | decide +kernel | rfl)) (fun z => (tg_blk ye.ok.blk z 11 rfl)) (fun _ (x25 : (Txt × Txt)) _ _ => ts_one (t_k (k_eq ye.ok.blk.blk (c_fst (c_v 11 rfl rfl)) (c_fst (c_v 12 rfl rfl))))) (fun _ (x25 : (Txt × Txt)) _ _ => (c_v 11 rfl rfl)))))) a_nil))))) ?_ (by exact h)
  intro shares26 h
  try dsimp only
  show Ws _ (⟨[some (pu script1), some (raw (.ref q2)), some (pu u9.1), some (pu u9.2), none, some (pu u15.1), some (pu u15.2), some (pu word18), some (pu other19), some (pu mine21), some (pu shares26), none, none, none, none, none, none, none, none, none, none, none], [(q2, dicec)]⟩ : DSt) _ _
  refine s_if (B := Q false) (C := (law_w9 u9 u15 word18 other19 mine21 shares26 Q E)) (t_k (k_neL ye.ok (c_l (c_L ye.ok (l_lcX0 (.p (.n 13) (.n 14)) [("start", 13), ("sign", 14)] ye.ok (i_list (c_v 9 rfl rfl)) (show BlkOk law_N d_law.scope _ _ from blk_by (by decide +kernel)) (fun z => (tg_pair ye.ok.blk.calm (tg_blk ye.ok z 13 rfl) (tg_blk ye.ok z 14 rfl))) (fun _ (x27 : (Txt × Txt)) _ _ => (c_meth (w := Counts_share_W) 1 ye.blk G_Counts_share (He.cls_ok (L.d.fact 49 rfl)) (Nat.le_of_ble_eq_true rfl) (c_v 5 rfl rfl) (a_cons (c_v 13 rfl rfl) (a_cons (c_v 14 rfl rfl) a_nil)) (fun _ => rfl) trivial))))) (c_l (c_v 10 rfl rfl)))) ?_ ?_ (by exact h)
  · intro h
    refine s_ret (R := fun (v30 : Bool) => Q v30) c_bl (by exact h) ?_
    intro v30 h
    try dsimp only
    exact ⟨⟨1, rfl⟩, _, rfl, h⟩
  intro h
  refine ws_nil ?_
  refine s_asgL (R := fun (smooth32 : (List (Int × Int))) => (law_w8 u9 u15 word18 other19 mine21 shares26 smooth32 Q E)) 15 ye.ok rfl (l_lc0 (.p (.n 16) (.n 17)) [("a", 16), ("b", 17)] (fun (x31 : (Int × Int)) => ((x31.1 + (1 : Int)), (x31.2 + (27 : Int)))) ye.ok (i_list (c_v 10 rfl rfl)) (show BlkOk law_N d_law.scope _ _ from blk_by (by decide +kernel)) (fun z => (tg_pair ye.ok.blk.calm (tg_blk ye.ok z 16 rfl) (tg_blk ye.ok z 17 rfl))) (fun _ (x31 : (Int × Int)) _ _ => (c_tup2 (a_cons (c_add (c_v 16 rfl rfl) c_int) (a_cons (c_add (c_v 17 rfl rfl) c_int) a_nil))))) ?_ (by exact h)
  intro smooth32 h
  try dsimp only
  show Ws _ (⟨[some (pu script1), some (raw (.ref q2)), some (pu u9.1), some (pu u9.2), none, some (pu u15.1), some (pu u15.2), some (pu word18), some (pu other19), some (pu mine21), some (pu shares26), none, none, none, none, some (pu smooth32), none, none, none, none, none, none], [(q2, dicec)]⟩ : DSt) _ _
  refine s_if (B := Q false) (C := (law_w7 u9 u15 word18 other19 mine21 shares26 smooth32 Q E)) (t_k (k_neL ye.ok (c_l (c_L ye.ok (l_lcX0 (.p (.n 13) (.n 14)) [("start", 13), ("sign", 14)] ye.ok (i_list (c_v 9 rfl rfl)) (show BlkOk law_N d_law.scope _ _ from blk_by (by decide +kernel)) (fun z => (tg_pair ye.ok.blk.calm (tg_blk ye.ok z 13 rfl) (tg_blk ye.ok z 14 rfl))) (fun _ (x33 : (Txt × Txt)) _ _ => (c_meth (w := Counts_smooth_W) 1 ye.blk G_Counts_smooth (He.cls_ok (L.d.fact 49 rfl)) (Nat.le_of_ble_eq_true rfl) (c_v 5 rfl rfl) (a_cons (c_v 13 rfl rfl) (a_cons (c_v 14 rfl rfl) a_nil)) (fun _ => rfl) trivial))))) (c_l (c_v 15 rfl rfl)))) ?_ ?_ (by exact h)
  · intro h
    refine s_ret (R := fun (v36 : Bool) => Q v36) c_bl (by exact h) ?_
    intro v36 h
    try dsimp only
    exact ⟨⟨1, rfl⟩, _, rfl, h⟩
  intro h
  refine ws_nil ?_
  refine s_asgT (R := fun (u38 : (Int × Int)) => (law_w6 u9 u15 word18 other19 mine21 shares26 smooth32 u38 Q E)) (.p (.n 18) (.n 19)) (tg_pair ye.ok.calm (tg_nm ye.ok.nd 18 rfl) (tg_nm ye.ok.nd 19 rfl)) (c_call (w := law_product_W) 1 ye G_law_product (Nat.le_of_ble_eq_true rfl) rfl (a_cons (c_v 10 rfl rfl) a_nil) (fun _ => rfl) rfl) ?_ (by exact h)
  intro u38 h
  try dsimp only
  show Ws _ (⟨[some (pu script1), some (raw (.ref q2)), some (pu u9.1), some (pu u9.2), none, some (pu u15.1), some (pu u15.2), some (pu word18), some (pu other19), some (pu mine21), some (pu shares26), none, none, none, none, some (pu smooth32), none, none, some (pu u38.1), some (pu u38.2), none, none], [(q2, dicec)]⟩ : DSt) _ _
  refine s_if (B := Q false) (C := (law_w5 u9 u15 word18 other19 mine21 shares26 smooth32 Q E)) (t_not (t_if (t_k (k_eq ye.ok (c_v 18 rfl rfl) c_int)) (t_k (k_eq ye.ok (c_meth (w := Counts_chance_W) 1 ye G_Counts_chance (He.cls_ok (L.d.fact 49 rfl)) (Nat.le_of_ble_eq_true rfl) (c_v 5 rfl rfl) (a_cons (c_v 7 rfl rfl) a_nil) (fun _ => rfl) rfl) (c_tup2 (a_cons c_int (a_cons c_int a_nil))))) (t_v (fun _ => rfl) (c_call (w := law_same_W) 1 ye G_law_same (Nat.le_of_ble_eq_true rfl) rfl (a_cons (c_meth (w := Counts_chance_W) 1 ye G_Counts_chance (He.cls_ok (L.d.fact 49 rfl)) (Nat.le_of_ble_eq_true rfl) (c_v 5 rfl rfl) (a_cons (c_v 7 rfl rfl) a_nil) (fun _ => rfl) rfl) (a_cons (c_v 18 rfl rfl) (a_cons (c_v 19 rfl rfl) a_nil))) (fun _ => rfl) rfl)))) ?_ ?_ (by exact h)
  · intro h
    refine s_ret (R := fun (v42 : Bool) => Q v42) c_bl (by exact h) ?_
    intro v42 h
    try dsimp only
    exact ⟨⟨1, rfl⟩, _, rfl, h⟩
  intro h
  refine ws_nil ?_
  refine s_asg (R := fun (first44 : (Int × Int)) => (law_w4 u9 u15 word18 other19 mine21 shares26 smooth32 first44 Q E)) 20 ye.ok rfl (c_call (w := law_product_W) 1 ye G_law_product (Nat.le_of_ble_eq_true rfl) rfl (a_cons (c_v 15 rfl rfl) a_nil) (fun _ => rfl) rfl) ?_ (by exact h)
  intro first44 h
  try dsimp only
  show Ws _ (⟨[some (pu script1), some (raw (.ref q2)), some (pu u9.1), some (pu u9.2), none, some (pu u15.1), some (pu u15.2), some (pu word18), some (pu other19), some (pu mine21), some (pu shares26), none, none, none, none, some (pu smooth32), none, none, some (pu u38.1), some (pu u38.2), some (pu first44), none], [(q2, dicec)]⟩ : DSt) _ _
  refine s_if (B := Q false) (C := (law_w3 u9 u15 word18 other19 mine21 shares26 smooth32 first44 Q E)) (t_not (t_v (fun _ => rfl) (c_call (w := law_same_W) 1 ye G_law_same (Nat.le_of_ble_eq_true rfl) rfl (a_cons (c_meth (w := Counts_smooth_chance_W) 1 ye G_Counts_smooth_chance (He.cls_ok (L.d.fact 49 rfl)) (Nat.le_of_ble_eq_true rfl) (c_v 5 rfl rfl) (a_cons (c_v 7 rfl rfl) a_nil) (fun _ => rfl) rfl) (a_cons (c_fst (c_v 20 rfl rfl)) (a_cons (c_snd (c_v 20 rfl rfl)) a_nil))) (fun _ => rfl) rfl))) ?_ ?_ (by exact h)
  · intro h
    refine s_ret (R := fun (v47 : Bool) => Q v47) c_bl (by exact h) ?_
    intro v47 h
    try dsimp only
    exact ⟨⟨1, rfl⟩, _, rfl, h⟩
  intro h
  refine ws_nil ?_
  refine s_asg (R := fun (second52 : (Int × Int)) => (law_w2 u9 u15 word18 other19 mine21 shares26 smooth32 first44 second52 Q E)) 21 ye.ok rfl (c_call (w := law_product_W) 1 ye G_law_product (Nat.le_of_ble_eq_true rfl) rfl (a_cons (c_L ye.ok (l_lc0 (.n 12) [("step", 12)] (fun (x49 : (Txt × Txt)) => (((cnt u15.2 x49 : Int) + (1 : Int)), ((List.length ((u15.2.filter (fun (x50 : (Txt × Txt)) => (decide (x50.1 = x49.1)))).map (fun (x50 : (Txt × Txt)) => x50)) : Int) + (27 : Int)))) ye.ok (i_list (c_call (w := law_steps_W) 1 ye G_law_steps (Nat.le_of_ble_eq_true rfl) rfl (a_cons (c_v 8 rfl rfl) (a_cons (c_v 3 rfl rfl) a_nil)) (fun _ => rfl) rfl)) (show BlkOk law_N d_law.scope _ _ from blk_by (by decide +kernel)) (fun z => (tg_blk ye.ok z 12 rfl)) (fun _ (x49 : (Txt × Txt)) _ _ => (c_tup2 (a_cons (c_add (c_cntL ye.ok.blk (c_l (c_v 6 rfl rfl)) (c_v 12 rfl rfl)) c_int) (a_cons (c_add (c_lenL B (by rfl) (c_l (c_L ye.ok.blk (l_lc (.n 11) [("one", 11)] (fun (x50 : (Txt × Txt)) => (decide (x50.1 = x49.1))) (fun (x50 : (Txt × Txt)) => x50) ye.ok.blk (i_list (c_v 6 rfl rfl)) (blk_by (by first | decide +kernel | rfl)) (fun z => (tg_blk ye.ok.blk z 11 rfl)) (fun _ (x50 : (Txt × Txt)) _ _ => ts_one (t_k (k_eq ye.ok.blk.blk (c_fst (c_v 11 rfl rfl)) (c_fst (c_v 12 rfl rfl))))) (fun _ (x50 : (Txt × Txt)) _ _ => (c_v 11 rfl rfl)))))) c_int) a_nil)))))) a_nil) (fun _ => rfl) rfl) ?_ (by exact h)
  intro second52 h
  try dsimp only
  show Ws _ (⟨[some (pu script1), some (raw (.ref q2)), some (pu u9.1), some (pu u9.2), none, some (pu u15.1), some (pu u15.2), some (pu word18), some (pu other19), some (pu mine21), some (pu shares26), none, none, none, none, some (pu smooth32), none, none, some (pu u38.1), some (pu u38.2), some (pu first44), some (pu second52)], [(q2, dicec)]⟩ : DSt) _ _
  refine s_if (B := Q false) (C := (law_w1 u9 u15 word18 mine21 shares26 smooth32 Q)) (t_k (k_ne ye.ok (c_meth (w := Counts_likelier_W) 1 ye G_Counts_likelier (He.cls_ok (L.d.fact 49 rfl)) (Nat.le_of_ble_eq_true rfl) (c_v 5 rfl rfl) (a_cons (c_v 7 rfl rfl) (a_cons (c_v 8 rfl rfl) a_nil)) (fun _ => rfl) rfl) (c_ifP (u := other19) (w := word18) (t_k (k_gt (c_mul (c_fst (c_v 21 rfl rfl)) (c_snd (c_v 20 rfl rfl))) (c_mul (c_fst (c_v 20 rfl rfl)) (c_snd (c_v 21 rfl rfl))))) (c_v 8 rfl rfl) (c_v 7 rfl rfl)))) ?_ ?_ (by exact h)
  · intro h
    refine s_ret (R := fun (v54 : Bool) => Q v54) c_bl (by exact h) ?_
    intro v54 h
    try dsimp only
    exact ⟨⟨1, rfl⟩, _, rfl, h⟩
  intro h
  refine ws_nil ?_
  refine s_if (B := Q false) (C := Q true) (t_not (t_v (fun _ => rfl) (c_callD 1 0 ye.ok G_law_rest2 (Nat.le_of_ble_eq_true rfl) rfl (a_cons (c_v 2 rfl rfl) (a_cons (c_v 3 rfl rfl) (a_cons (c_v 5 rfl rfl) (a_cons (c_v 6 rfl rfl) (a_cons (c_v 7 rfl rfl) (a_cons (c_v 9 rfl rfl) (a_cons (c_v 10 rfl rfl) (a_cons (c_v 15 rfl rfl) a_nil)))))))) rfl rfl rfl (fun _ => rfl)))) ?_ ?_ (by exact h)
  · intro h
    refine s_ret (R := fun (v56 : Bool) => Q v56) c_bl (by exact h) ?_
    intro v56 h
    try dsimp only
    exact ⟨⟨1, rfl⟩, _, rfl, h⟩
  intro h
  refine ws_nil ?_
  refine ws_nil ?_
  refine s_ret (R := fun (v57 : Bool) => Q v57) c_bl (by exact h) ?_
  intro v57 h
  try dsimp only
  exact ⟨⟨1, rfl⟩, _, rfl, h⟩
end
end K08
set_option maxHeartbeats 0
set_option synthInstance.maxSize 2000
namespace K08
open PySem L2 Sp
theorem law_ok {P : Program} {w : World} {K : Frag} {mg : Str → Option Value} {base : Heap} (B : Bis mg) (L : LK w K mg base fa fn tq) (CM_Counts : HN.cmpK K (He.ga K "Counts")) {fd : FuncData} (F0 : Fd K d_law ["script"] fd) : FnOk P w K mg base (L2.CX P w) 12 (He.fAd K d_law.at_) fd ["script"] (toSp K (tbOf K tq) 1 (spF K law_W)) := by
  obtain ⟨fd_law_dice, FD_law_dice⟩ := Sp.LK.fd L.d 20 (d := d__law_dice) ["cell"] rfl (fun _ _ _ _ _ _ us hl => match us, hl with | [_], _ => rfl)
  have G_law_dice : Df P w K mg base (tbOf K tq) 1 "_law_dice" ["cell"] dDiceA := LK.df L FD_law_dice (ok_dice B L FD_law_dice) mDiceA 6
  obtain ⟨fd_law_roll, FD_law_roll⟩ := Sp.LK.fd L.d 21 (d := d__law_roll) ["dice", "many"] rfl (fun _ _ _ _ _ _ us hl => match us, hl with | [_, _], _ => rfl)
  have G_law_roll : Df P w K mg base (tbOf K tq) 1 "_law_roll" ["dice", "many"] (spD rollW) := LK.df L FD_law_roll (ok_roll B L FD_law_roll) spD_mono 7
  obtain ⟨fd_law_rounds, FD_law_rounds⟩ := Sp.LK.fd L.d 22 (d := d__law_rounds) ["script", "most"] rfl (fun _ _ _ _ _ _ us hl => match us, hl with | [_, _], _ => rfl)
  have G_law_rounds : Df P w K mg base (tbOf K tq) 2 "_law_rounds" ["script", "most"] dRoundsA := LK.df L FD_law_rounds (ok_rounds B L FD_law_rounds G_law_dice) mRoundsA 8
  obtain ⟨fd_law_told, FD_law_told⟩ := Sp.LK.fd L.d 23 (d := d__law_told) ["what"] rfl (fun _ _ _ _ _ _ us hl => match us, hl with | [_], _ => rfl)
  obtain ⟨fd_check_word, FD_check_word⟩ := Sp.LK.fd L.d 0 (d := d_check_word) ["word"] rfl (fun _ _ _ _ _ _ us hl => match us, hl with | [_], _ => rfl)
  have G_check_word : Df P w K mg base (tbOf K tq) 3 "check_word" ["word"] (spF K check_word_W) := LK.df L FD_check_word (ok_check_word B L FD_check_word ) spF_mono 0
  obtain ⟨fd_Counts_tell, FD_Counts_tell⟩ := Sp.LK.fd L.d 2 (d := d_Counts_tell) ["self", "word", "many"] rfl (fun _ _ _ _ _ _ us hl => match us, hl with | [_, _, _], _ => rfl)
  have G_Counts_tell : Mt P w K mg base (tbOf K tq) 4 (He.ga K "Counts") "tell" ["self", "word", "many"] (tellSp K) := LK.mt L FD_Counts_tell (ok_Counts_tell B L FD_Counts_tell G_check_word) tellSp_mono 54
  obtain ⟨fd_Counts_init, FD_Counts_init⟩ := Sp.LK.fd L.d 1 (d := d_Counts_init) ["self", "words", "size"] rfl (fun _ _ _ _ _ _ us hl => match us, hl with | [_, _, _], _ => rfl)
  have G_Counts_init : Mkr P w K mg base (tbOf K tq) 5 "Counts" (He.ga K "Counts") ["self", "words", "size"] (spI K Counts_init_W) := LK.mkr L FD_Counts_init (ok_Counts_init B L FD_Counts_init G_Counts_tell) spI_mono 50 19
  obtain ⟨fd_Counts_init_2, FD_Counts_init_2⟩ := Sp.LK.fd L.d 1 (d := d_Counts_init) ["self", "words", "size"] rfl (fun _ _ _ _ _ _ us hl => match us, hl with | [_, _, _], _ => rfl)
  have G_Counts_init_2 : Mkr P w K mg base (tbOf K tq) 5 "Counts" (He.ga K "Counts") ["self", "words", "size"] (init2Sp K) := LK.mkr L FD_Counts_init_2 (ok_Counts_init_2 B L FD_Counts_init_2) init2Sp_mono 50 19
  obtain ⟨fd_Counts_share, FD_Counts_share⟩ := Sp.LK.fd L.d 3 (d := d_Counts_share) ["self", "start", "sign"] rfl (fun _ _ _ _ _ _ us hl => match us, hl with | [_, _, _], _ => rfl)
  have G_Counts_share : Mt P w K mg base (tbOf K tq) 1 (He.ga K "Counts") "share" ["self", "start", "sign"] (spF K Counts_share_W) := LK.mt L FD_Counts_share (ok_Counts_share B L FD_Counts_share ) spF_mono 55
  obtain ⟨fd_Counts_smooth, FD_Counts_smooth⟩ := Sp.LK.fd L.d 4 (d := d_Counts_smooth) ["self", "start", "sign"] rfl (fun _ _ _ _ _ _ us hl => match us, hl with | [_, _, _], _ => rfl)
  have G_Counts_smooth : Mt P w K mg base (tbOf K tq) 2 (He.ga K "Counts") "smooth" ["self", "start", "sign"] (spF K Counts_smooth_W) := LK.mt L FD_Counts_smooth (ok_Counts_smooth B L FD_Counts_smooth G_Counts_share) spF_mono 56
  obtain ⟨fd_Counts_steps_along, FD_Counts_steps_along⟩ := Sp.LK.fd L.d 5 (d := d_Counts_steps_along) ["self", "word"] rfl (fun _ _ _ _ _ _ us hl => match us, hl with | [_, _], _ => rfl)
  have G_Counts_steps_along : Mt P w K mg base (tbOf K tq) 1 (He.ga K "Counts") "steps_along" ["self", "word"] (spF K Counts_steps_along_W) := LK.mt L FD_Counts_steps_along (ok_Counts_steps_along B L FD_Counts_steps_along ) spF_mono 57
  obtain ⟨fd_lowest, FD_lowest⟩ := Sp.LK.fd L.d 15 (d := d_lowest) ["top", "bottom"] rfl (fun _ _ _ _ _ _ us hl => match us, hl with | [_, _], _ => rfl)
  have G_lowest : Df P w K mg base (tbOf K tq) 1 "lowest" ["top", "bottom"] (spF K lowest_W) := LK.df L FD_lowest (ok_lowest B L FD_lowest ) spF_mono 1
  obtain ⟨fd_Counts_chance, FD_Counts_chance⟩ := Sp.LK.fd L.d 6 (d := d_Counts_chance) ["self", "word"] rfl (fun _ _ _ _ _ _ us hl => match us, hl with | [_, _], _ => rfl)
  have G_Counts_chance : Mt P w K mg base (tbOf K tq) 2 (He.ga K "Counts") "chance" ["self", "word"] (spF K Counts_chance_W) := LK.mt L FD_Counts_chance (ok_Counts_chance B L FD_Counts_chance G_Counts_steps_along G_Counts_share G_lowest) spF_mono 58
  obtain ⟨fd_Counts_smooth_chance, FD_Counts_smooth_chance⟩ := Sp.LK.fd L.d 7 (d := d_Counts_smooth_chance) ["self", "word"] rfl (fun _ _ _ _ _ _ us hl => match us, hl with | [_, _], _ => rfl)
  have G_Counts_smooth_chance : Mt P w K mg base (tbOf K tq) 3 (He.ga K "Counts") "smooth_chance" ["self", "word"] (spF K Counts_smooth_chance_W) := LK.mt L FD_Counts_smooth_chance (ok_Counts_smooth_chance B L FD_Counts_smooth_chance G_Counts_steps_along G_Counts_smooth G_lowest) spF_mono 59
  obtain ⟨fd_Counts_likelier, FD_Counts_likelier⟩ := Sp.LK.fd L.d 8 (d := d_Counts_likelier) ["self", "one", "other"] rfl (fun _ _ _ _ _ _ us hl => match us, hl with | [_, _, _], _ => rfl)
  have G_Counts_likelier : Mt P w K mg base (tbOf K tq) 4 (He.ga K "Counts") "likelier" ["self", "one", "other"] (spF K Counts_likelier_W) := LK.mt L FD_Counts_likelier (ok_Counts_likelier B L FD_Counts_likelier G_Counts_smooth_chance) spF_mono 60
  obtain ⟨fd_Counts_next_letters, FD_Counts_next_letters⟩ := Sp.LK.fd L.d 9 (d := d_Counts_next_letters) ["self", "start"] rfl (fun _ _ _ _ _ _ us hl => match us, hl with | [_, _], _ => rfl)
  have G_Counts_next_letters : Mt P w K mg base (tbOf K tq) 4 (He.ga K "Counts") "next_letters" ["self", "start"] (spF K Counts_next_letters_W) := LK.mt L FD_Counts_next_letters (ok_Counts_next_letters B L FD_Counts_next_letters ) spF_mono 61
  obtain ⟨fd_Counts_likeliest, FD_Counts_likeliest⟩ := Sp.LK.fd L.d 10 (d := d_Counts_likeliest) ["self", "most"] rfl (fun _ _ _ _ _ _ us hl => match us, hl with | [_, _], _ => rfl)
  have G_Counts_likeliest : Mt P w K mg base (tbOf K tq) 5 (He.ga K "Counts") "likeliest" ["self", "most"] (spF K Counts_likeliest_W) := LK.mt L FD_Counts_likeliest (ok_Counts_likeliest B L FD_Counts_likeliest G_Counts_next_letters) spF_mono 62
  obtain ⟨fd_Counts_strangest, FD_Counts_strangest⟩ := Sp.LK.fd L.d 11 (d := d_Counts_strangest) ["self", "word"] rfl (fun _ _ _ _ _ _ us hl => match us, hl with | [_, _], _ => rfl)
  have G_Counts_strangest : Mt P w K mg base (tbOf K tq) 3 (He.ga K "Counts") "strangest" ["self", "word"] (spF K Counts_strangest_W) := LK.mt L FD_Counts_strangest (ok_Counts_strangest B L FD_Counts_strangest G_Counts_steps_along G_Counts_smooth) spF_mono 63
  obtain ⟨fd_Counts_unseen, FD_Counts_unseen⟩ := Sp.LK.fd L.d 12 (d := d_Counts_unseen) ["self", "word"] rfl (fun _ _ _ _ _ _ us hl => match us, hl with | [_, _], _ => rfl)
  have G_Counts_unseen : Mt P w K mg base (tbOf K tq) 2 (He.ga K "Counts") "unseen" ["self", "word"] (spF K Counts_unseen_W) := LK.mt L FD_Counts_unseen (ok_Counts_unseen B L FD_Counts_unseen G_Counts_steps_along G_Counts_share) spF_mono 64
  obtain ⟨fd_Counts_all_made, FD_Counts_all_made⟩ := Sp.LK.fd L.d 13 (d := d_Counts_all_made) ["self", "length"] rfl (fun _ _ _ _ _ _ us hl => match us, hl with | [_, _], _ => rfl)
  have G_Counts_all_made : Mt P w K mg base (tbOf K tq) 5 (He.ga K "Counts") "all_made" ["self", "length"] (spF K Counts_all_made_W) := LK.mt L FD_Counts_all_made (ok_Counts_all_made B L FD_Counts_all_made G_Counts_next_letters) spF_mono 65
  obtain ⟨fd_Counts_both, FD_Counts_both⟩ := Sp.LK.fd L.d 14 (d := d_Counts_both) ["self", "other"] rfl (fun _ _ _ _ _ _ us hl => match us, hl with | [_, _], _ => rfl)
  have G_Counts_both : Mt P w K mg base (tbOf K tq) 7 (He.ga K "Counts") "both" ["self", "other"] (spF K Counts_both_W) := LK.mt L FD_Counts_both (ok_Counts_both B L FD_Counts_both G_Counts_init_2) spF_mono 66
  obtain ⟨fd_runs_in, FD_runs_in⟩ := Sp.LK.fd L.d 16 (d := d_runs_in) ["word", "size"] rfl (fun _ _ _ _ _ _ us hl => match us, hl with | [_, _], _ => rfl)
  have G_runs_in : Df P w K mg base (tbOf K tq) 1 "runs_in" ["word", "size"] (spF K runs_in_W) := LK.df L FD_runs_in (ok_runs_in B L FD_runs_in ) spF_mono 2
  obtain ⟨fd_run_likeness, FD_run_likeness⟩ := Sp.LK.fd L.d 17 (d := d_run_likeness) ["one", "other", "size"] rfl (fun _ _ _ _ _ _ us hl => match us, hl with | [_, _, _], _ => rfl)
  have G_run_likeness : Df P w K mg base (tbOf K tq) 3 "run_likeness" ["one", "other", "size"] (spF K run_likeness_W) := LK.df L FD_run_likeness (ok_run_likeness B L FD_run_likeness G_runs_in) spF_mono 3
  obtain ⟨fd_most_like, FD_most_like⟩ := Sp.LK.fd L.d 18 (d := d_most_like) ["words", "word", "size"] rfl (fun _ _ _ _ _ _ us hl => match us, hl with | [_, _, _], _ => rfl)
  have G_most_like : Df P w K mg base (tbOf K tq) 4 "most_like" ["words", "word", "size"] (spF K most_like_W) := LK.df L FD_most_like (ok_most_like B L FD_most_like G_run_likeness) spF_mono 4
  obtain ⟨fd_law_flat, FD_law_flat⟩ := Sp.LK.fd L.d 19 (d := d__law_flat) ["rows"] rfl (fun _ _ _ _ _ _ us hl => match us, hl with | [_], _ => rfl)
  have G_law_flat : Df P w K mg base (tbOf K tq) 1 "_law_flat" ["rows"] (spF K law_flat_W) := LK.df L FD_law_flat (ok_law_flat B L FD_law_flat ) spF_mono 5
  obtain ⟨fd_law_flat_2, FD_law_flat_2⟩ := Sp.LK.fd L.d 19 (d := d__law_flat) ["rows"] rfl (fun _ _ _ _ _ _ us hl => match us, hl with | [_], _ => rfl)
  have G_law_flat_2 : Df P w K mg base (tbOf K tq) 1 "_law_flat" ["rows"] (spF K law_flat_2_W) := LK.df L FD_law_flat_2 (ok_law_flat_2 B L FD_law_flat_2 ) spF_mono 5
  obtain ⟨fd_law_word, FD_law_word⟩ := Sp.LK.fd L.d 24 (d := d__law_word) ["dice", "letters", "least", "most"] rfl (fun _ _ _ _ _ _ us hl => match us, hl with | [_, _, _, _], _ => rfl)
  have G_law_word : Df P w K mg base (tbOf K tq) 2 "_law_word" ["dice", "letters", "least", "most"] (spD law_word_W) := LK.df L FD_law_word (ok_law_word B L FD_law_word G_law_roll) spD_mono 10
  obtain ⟨fd_law_unlike, FD_law_unlike⟩ := Sp.LK.fd L.d 25 (d := d__law_unlike) ["words"] rfl (fun _ _ _ _ _ _ us hl => match us, hl with | [_], _ => rfl)
  have G_law_unlike : Df P w K mg base (tbOf K tq) 1 "_law_unlike" ["words"] (spF K law_unlike_W) := LK.df L FD_law_unlike (ok_law_unlike B L FD_law_unlike ) spF_mono 11
  obtain ⟨fd_law_steps, FD_law_steps⟩ := Sp.LK.fd L.d 26 (d := d__law_steps) ["word", "size"] rfl (fun _ _ _ _ _ _ us hl => match us, hl with | [_, _], _ => rfl)
  have G_law_steps : Df P w K mg base (tbOf K tq) 1 "_law_steps" ["word", "size"] (spF K law_steps_W) := LK.df L FD_law_steps (ok_law_steps B L FD_law_steps ) spF_mono 12
  obtain ⟨fd_law_same, FD_law_same⟩ := Sp.LK.fd L.d 27 (d := d__law_same) ["share", "top", "bottom"] rfl (fun _ _ _ _ _ _ us hl => match us, hl with | [_, _, _], _ => rfl)
  have G_law_same : Df P w K mg base (tbOf K tq) 1 "_law_same" ["share", "top", "bottom"] (spF K law_same_W) := LK.df L FD_law_same (ok_law_same B L FD_law_same ) spF_mono 13
  obtain ⟨fd_law_product, FD_law_product⟩ := Sp.LK.fd L.d 28 (d := d__law_product) ["pairs"] rfl (fun _ _ _ _ _ _ us hl => match us, hl with | [_], _ => rfl)
  have G_law_product : Df P w K mg base (tbOf K tq) 1 "_law_product" ["pairs"] (spF K law_product_W) := LK.df L FD_law_product (ok_law_product B L FD_law_product ) spF_mono 14
  obtain ⟨fd_law_cases1, FD_law_cases1⟩ := Sp.LK.fd L.d 29 (d := d__law_cases1) [] rfl (fun _ _ _ _ _ _ us hl => match us, hl with | [], _ => rfl)
  have G_law_cases1 : Df P w K mg base (tbOf K tq) 9 "_law_cases1" [] (spF K law_cases1_W) := LK.df L FD_law_cases1 (ok_law_cases1 B L FD_law_cases1 FD_law_told CM_Counts G_Counts_init G_runs_in) spF_mono 15
  obtain ⟨fd_law_rest1, FD_law_rest1⟩ := Sp.LK.fd L.d 30 (d := d__law_rest1) ["dice", "words", "size", "counts", "steps", "word", "mine", "shares", "smooth"] rfl (fun _ _ _ _ _ _ us hl => match us, hl with | [_, _, _, _, _, _, _, _, _], _ => rfl)
  have G_law_rest1 : Df P w K mg base (tbOf K tq) 10 "_law_rest1" ["dice", "words", "size", "counts", "steps", "word", "mine", "shares", "smooth"] (spD law_rest1_W) := LK.df L FD_law_rest1 (ok_law_rest1 B L FD_law_rest1 FD_law_told CM_Counts G_Counts_strangest G_Counts_unseen G_law_roll G_law_flat_2 G_Counts_all_made G_law_steps G_Counts_both G_Counts_init G_Counts_share G_runs_in G_law_unlike G_run_likeness G_most_like G_lowest G_law_cases1) spD_mono 16
  obtain ⟨fd_law_rest2, FD_law_rest2⟩ := Sp.LK.fd L.d 31 (d := d__law_rest2) ["dice", "words", "size", "counts", "steps", "word", "mine", "shares", "smooth"] rfl (fun _ _ _ _ _ _ us hl => match us, hl with | [_, _, _, _, _, _, _, _, _], _ => rfl)
  have G_law_rest2 : Df P w K mg base (tbOf K tq) 11 "_law_rest2" ["dice", "words", "size", "counts", "steps", "word", "mine", "shares", "smooth"] (spD law_rest2_W) := LK.df L FD_law_rest2 (ok_law_rest2 B L FD_law_rest2 FD_law_told G_law_word G_law_unlike G_Counts_next_letters G_Counts_likeliest G_law_rest1) spD_mono 17
  exact ok_law B L F0 G_law_rounds G_law_roll G_law_word G_Counts_init G_law_flat G_law_steps G_Counts_steps_along G_Counts_share G_Counts_smooth G_law_product G_Counts_chance G_law_same G_Counts_smooth_chance G_Counts_likelier G_law_rest2
end K08
namespace K08
open PySem L2 Sp
theorem bis_of {w : World} {K : Frag} {mg : Str → Option Value} {base : Heap} (L : LK w K mg base fa fn tq) : Bis mg := by
  have g : ∀ i (x : Str), fa[i]? = some (He.Fa.free x) → mg x = none := fun i x h => He.free_ok L.X L.G (L.d.fact i h)
  refine ⟨fun x hx => ?_⟩
  simp only [List.mem_cons, List.not_mem_nil, or_false] at hx
  rcases hx with rfl | rfl | rfl | rfl | rfl | rfl | rfl | rfl | rfl | rfl | rfl | rfl | rfl | rfl | rfl | rfl | rfl | rfl | rfl
  · exact g 28 _ rfl
  · exact g 29 _ rfl
  · exact g 30 _ rfl
  · exact g 31 _ rfl
  · exact g 32 _ rfl
  · exact g 33 _ rfl
  · exact g 34 _ rfl
  · exact g 35 _ rfl
  · exact g 36 _ rfl
  · exact g 37 _ rfl
  · exact g 38 _ rfl
  · exact g 39 _ rfl
  · exact g 40 _ rfl
  · exact g 41 _ rfl
  · exact g 42 _ rfl
  · exact g 43 _ rfl
  · exact g 44 _ rfl
  · exact g 45 _ rfl
  · exact g 46 _ rfl
theorem cm_of {K : Frag} (h : ndTab K = true) (c : Str) (hc : c ∈ cmc) : HN.cmpK K (He.ga K c) := by
  unfold ndTab at h
  rw [Bool.and_eq_true, Bool.and_eq_true, Bool.and_eq_true] at h
  exact HN.cmpB_ok (List.all_eq_true.mp h.1.1.2 c hc)
theorem nd_of {K : Frag} (h : ndTab K = true) : (tq.map fun p => (He.cT K p.1).2).Nodup := by
  unfold ndTab at h
  rw [Bool.and_eq_true, Bool.and_eq_true, Bool.and_eq_true] at h
  exact of_decide_eq_true h.1.1.1
end K08
open PySem PySem.W PySem.Calls PyProof.Rows in
theorem K08.holds_of (plain : ∀ ns : List Int, ns.length ≤ 63 → (∀ z ∈ ns, Builtin.Int.intBits z ≤ 1048576) → K08.law_W (ns, ()) (fun b => b = true) Sp.NoE) : PySem.Challenge.rw_spellhall_k08_grams.Holds := by
  w_on; o_law
  refine HandSHeadRun.head_any (r := K08.R) (q := view K08.R.prog [33]) (H := K08.hk) (ob := K08.ob) (M := 4000) (loose := K08.names) (d := HandSHeadRun.topDef K08.R.prog 33) (kwd := []) K08.ob_eq
    (by kernel_rfl) (fun s => by kernel_rfl) K08.run (by kernel_rfl) (by kernel_rfl) (by kernel_rfl) (by rfl) (by first | assumption | decide +kernel) (by decide +kernel) ⟨rfl, rfl, rfl, rfl, rfl, by decide +kernel⟩ ?hw ?hc
  case hw => w_witness2
  case hc =>
    refine LamX.walk_ofTsE (l := PySem.Challenge.rw_spellhall_k08_grams) (n := 63) (k := 12) (x := "script") (CX := fun w => L2.CX PySem.Challenge.rw_spellhall_k08_grams.prog w) rfl (by decide) (by kernel_rfl) ⟨rfl, by decide, by decide⟩ ?F (fun w H s e s' z => by
      obtain ⟨_, _, _, _, _, _, _, _, _, _, _, _, z⟩ := z
      exact z)
    intro w mg fA h Y G hmg0
    obtain ⟨K, KX, c⟩ := Y
    refine ⟨K, KX, ?_⟩
    have hmg : mg ("law" : PySem.Str) = some (.ref fA) := by
      have e : (HandSHeadRun.topDef K08.R.prog 33).name = ("law" : PySem.Str) := by kernel_rfl
      rw [← e]
      exact hmg0
    have hg := He.glo_ok KX G (c.t.d.fact 18 (f := .glo "law") rfl)
    have ef : He.fAd K K08.d_law.at_ = fA := by
      rw [hmg] at hg
      cases hg
      rfl
    have hb : ∀ (kV doc pm : Value) (an : Option Addr) (cdv ct : Value) (us : List Value), us.length = [("script" : PySem.Str)].length → bindArgs (PySem.W.fnOf K08.d_law.name K08.d_law.qual K08.d_law.params K08.d_law.body K08.d_law.scope .none kV doc pm an cdv ct) ⟨us, []⟩ = pure ([("script" : PySem.Str)].zip us) :=
      fun _ _ _ _ _ _ us hl => match us, hl with | [_], _ => rfl
    obtain ⟨fd, F1⟩ := Sp.LK.fd c.t.d 32 (d := K08.d_law) ["script"] rfl hb
    exact Sp.law_end (tq := K08.tq) KX c (K08.nd_of c.more) F1 ef hb Sp.spF_mono (fun ns hl hz => ⟨(ns, ()), rfl, rfl, (fun b => b = true), Sp.NoE, plain ns hl hz, fun b hb => by subst hb; rfl, fun e he => he.elim⟩) fun base L => K08.law_ok (K08.bis_of L) L (K08.cm_of c.more "Counts" (by decide)) F1
set_option maxHeartbeats 400000
namespace K08
open PySem L2 Sp
open PySem.W (DatumOrd listLt)
abbrev St2 : Type := Txt × Txt
abbrev row (m : Rws) (a : Txt) : Whl := (dval m a).getD []
theorem row_hop (m : Rws) (a b : Txt) : row (hop m a) b = row m b := by
  unfold hop
  by_cases h : (dval m a).isSome = true
  · rw [if_pos h]
  · rw [if_neg h]
    unfold row
    rw [dval_app]
    cases e : dval m b with
    | some v => rfl
    | none =>
      rw [dval_cons, dval_nil]
      by_cases c : a = b
      · rw [if_pos c]; rfl
      · rw [if_neg c]; rfl
theorem hop_some (m : Rws) (a : Txt) : (dval (hop m a) a).isSome = true := by
  unfold hop
  by_cases h : (dval m a).isSome = true
  · rw [if_pos h]; exact h
  · rw [if_neg h, dval_app]
    cases e : dval m a with
    | some v => rfl
    | none => rw [dval_cons, if_pos rfl]; rfl
theorem hop_mem {m : Rws} {a : Txt} {p : Txt × Whl} (h : p ∈ hop m a) : p ∈ m ∨ p = (a, []) := by
  unfold hop at h
  by_cases c : (dval m a).isSome = true
  · rw [if_pos c] at h; exact .inl h
  · rw [if_neg c] at h
    rcases List.mem_append.mp h with h | h
    · exact .inl h
    · exact .inr (List.mem_singleton.mp h)
theorem hop_nd {m : Rws} {a : Txt} (h : (m.map (·.1)).Nodup) : ((hop m a).map (·.1)).Nodup := by
  unfold hop
  by_cases c : (dval m a).isSome = true
  · rw [if_pos c]; exact h
  · rw [if_neg c, List.map_append, List.nodup_append]
    have hn : a ∉ m.map (·.1) := by
      rw [← dval_none]
      cases e : dval m a with
      | none => rfl
      | some v => rw [e] at c; exact absurd rfl c
    exact ⟨h, by simp, fun x hx y hy e => by rw [show y = a from List.mem_singleton.mp hy] at e; exact hn (e ▸ hx)⟩
theorem hop_len (m : Rws) (a : Txt) : (hop m a).length ≤ m.length + 1 := by
  unfold hop
  by_cases c : (dval m a).isSome = true
  · rw [if_pos c]; omega
  · rw [if_neg c, List.length_append]; exact Nat.le_refl _
theorem rset_keys : ∀ (m : Rws) (a : Txt) (v : Whl), (rset m a v).map (·.1) = m.map (·.1)
  | [], _, _ => rfl
  | p :: r, a, v => by
    unfold rset
    by_cases h : p.1 = a
    · rw [if_pos h]; rfl
    · rw [if_neg h, List.map_cons, List.map_cons, rset_keys r a v]
theorem rset_mem : ∀ {m : Rws} {a : Txt} {v : Whl} {p : Txt × Whl}, p ∈ rset m a v → p ∈ m ∨ p.2 = v
  | [], _, _, _, h => by cases h
  | q :: r, a, v, p, h => by
    unfold rset at h
    by_cases c : q.1 = a
    · rw [if_pos c] at h
      rcases List.mem_cons.mp h with h | h
      · exact .inr (by rw [h])
      · exact .inl (List.mem_cons_of_mem _ h)
    · rw [if_neg c] at h
      rcases List.mem_cons.mp h with h | h
      · exact .inl (by rw [h]; exact List.mem_cons_self)
      · rcases rset_mem h with h | h
        · exact .inl (List.mem_cons_of_mem _ h)
        · exact .inr h
theorem rset_val : ∀ (m : Rws) (a : Txt) (v : Whl) (b : Txt), (dval m a).isSome = true → dval (rset m a v) b = if a = b then some v else dval m b
  | [], _, _, _, h => by cases h
  | p :: r, a, v, b, h => by
    rw [dval_cons] at h
    unfold rset
    by_cases c : p.1 = a
    · rw [if_pos c, dval_cons]
      show (if p.1 = b then some v else dval r b) = _
      rw [c]
      by_cases d : a = b
      · rw [if_pos d, if_pos d]
      · rw [if_neg d, if_neg d, dval_cons, if_neg (by rw [c]; exact d)]
    · rw [if_neg c] at h ⊢
      rw [dval_cons, rset_val r a v b h]
      by_cases d : a = b
      · subst d; rw [if_pos rfl, if_neg c, if_pos rfl]
      · rw [if_neg d, if_neg d, dval_cons]
theorem rset_len (m : Rws) (a : Txt) (v : Whl) : (rset m a v).length = m.length := by
  have := congrArg List.length (rset_keys m a v)
  rwa [List.length_map, List.length_map] at this
theorem dput_nd {d : Whl} {k : Txt} {v : Int} (h : (d.map (·.1)).Nodup) : ((dput d k v).map (·.1)).Nodup := by
  rw [dput_keys]
  by_cases c : k ∈ d.map (·.1)
  · rw [if_pos c]; exact h
  · rw [if_neg c, List.nodup_append]
    exact ⟨h, by simp, fun x hx y hy e => by rw [List.mem_singleton.mp hy] at e; exact c (e ▸ hx)⟩
theorem dput_mem {d : Whl} {k : Txt} {v : Int} {q : Txt × Int} (h : q ∈ dput d k v) : q ∈ d ∨ q = (k, v) := by
  unfold dput at h
  by_cases c : (d.any fun kv => decide (kv.1 = k)) = true
  · rw [if_pos c] at h
    obtain ⟨p, hp, e⟩ := List.mem_map.mp h
    by_cases d2 : p.1 = k
    · rw [if_pos d2] at e; exact .inr (by rw [← e, d2])
    · rw [if_neg d2] at e; exact .inl (e ▸ hp)
  · rw [if_neg c] at h
    rcases List.mem_append.mp h with h | h
    · exact .inl h
    · exact .inr (List.mem_singleton.mp h)
theorem val_of_mem {ν : Type} {d : List (Txt × ν)} (h : (d.map (·.1)).Nodup) {k : Txt} {v : ν} (hm : (k, v) ∈ d) : dval d k = some v := by
  induction d with
  | nil => cases hm
  | cons p r ih =>
    rw [List.map_cons, List.nodup_cons] at h
    rw [dval_cons]
    rcases List.mem_cons.mp hm with e | hm
    · subst e; rw [if_pos rfl]
    · rw [if_neg fun e => h.1 (by rw [e]; exact List.mem_map.mpr ⟨_, hm, rfl⟩)]
      exact ih h.2 hm
theorem dput_sum (d : Whl) (h : (d.map (·.1)).Nodup) (k : Txt) (v : Int) : ((dput d k ((dval d k).getD 0 + v)).map (·.2)).sum = (d.map (·.2)).sum + v := by
  by_cases c : k ∈ d.map (·.1)
  · have g : ∀ (d : Whl) (u : Int), (d.map (·.1)).Nodup → k ∈ d.map (·.1) → ((d.map fun kv => if kv.1 = k then (kv.1, u) else kv).map (·.2)).sum = (d.map (·.2)).sum - (dval d k).getD 0 + u := by
      intro d u
      induction d with
      | nil => intro _ h; cases h
      | cons p r ih =>
        intro h hk
        rw [List.map_cons, List.nodup_cons] at h
        rw [List.map_cons, List.map_cons, List.sum_cons, List.map_cons, List.sum_cons, dval_cons]
        by_cases e : p.1 = k
        · rw [if_pos e, if_pos e]
          have : (r.map fun kv => if kv.1 = k then (kv.1, u) else kv) = r := by
            conv => rhs; rw [← List.map_id r]
            refine List.map_congr_left fun x hx => ?_
            rw [if_neg fun e2 => h.1 (by rw [e, ← e2]; exact List.mem_map.mpr ⟨x, hx, rfl⟩)]
            rfl
          rw [this]
          show u + _ = p.2 + _ - p.2 + u
          omega
        · rw [if_neg e, if_neg e]
          rw [List.map_cons] at hk
          rw [ih h.2 ((List.mem_cons.mp hk).resolve_left fun x => e x.symm)]
          omega
    unfold dput
    rw [if_pos (any_key.mpr c), g d _ h c]
    omega
  · rw [dput_new c, List.map_append, List.sum_append, dval_none.mpr c]
    show _ + (0 + v + 0) = _
    omega
structure Gd (f : Txt → Txt → Int) (g : Txt → Int) (N : Nat) (z : Rws × Whl) : Prop where
  nk : (z.1.map (·.1)).Nodup
  nr : ∀ p ∈ z.1, (p.2.map (·.1)).Nodup ∧ p.2.length ≤ N ∧ ∀ q ∈ p.2, 0 < q.2
  vl : ∀ a b, (dval (row z.1 a) b).getD 0 = f a b
  wl : ∀ a, (dval z.2 a).getD 0 = g a
  sm : ∀ a, g a = ((row z.1 a).map (·.2)).sum
  l1 : z.1.length ≤ N
  l2 : z.2.length ≤ N
section
variable {f : Txt → Txt → Int} {g : Txt → Int} {N : Nat} {z : Rws × Whl}
theorem Gd.rowP (h : Gd f g N z) (a : Txt) : ((row z.1 a).map (·.1)).Nodup ∧ (row z.1 a).length ≤ N ∧ ∀ q ∈ row z.1 a, 0 < q.2 := by
  unfold row
  cases e : dval z.1 a with
  | none => exact ⟨List.nodup_nil, Nat.zero_le _, fun q h => by cases h⟩
  | some v => exact h.nr _ (dval_mem e)
theorem Gd.mono (h : Gd f g N z) {N' : Nat} (hn : N ≤ N') : Gd f g N' z := ⟨h.nk, fun p hp => ⟨(h.nr p hp).1, Nat.le_trans (h.nr p hp).2.1 hn, (h.nr p hp).2.2⟩, h.vl, h.wl, h.sm, Nat.le_trans h.l1 hn, Nat.le_trans h.l2 hn⟩
theorem Gd.congr (h : Gd f g N z) {f' : Txt → Txt → Int} {g' : Txt → Int} (hf : ∀ a b, f a b = f' a b) (hg : ∀ a, g a = g' a) : Gd f' g' N z := ⟨h.nk, h.nr, fun a b => by rw [h.vl, hf], fun a => by rw [h.wl, hg], fun a => by rw [← hg, h.sm], h.l1, h.l2⟩
theorem Gd.hop (h : Gd f g N z) (a : Txt) : Gd f g (N + 1) (hop z.1 a, z.2) := by
  refine ⟨hop_nd h.nk, fun p hp => ?_, fun x y => ?_, h.wl, fun x => ?_, Nat.le_trans (hop_len _ _) (by have := h.l1; omega), Nat.le_succ_of_le h.l2⟩
  · rcases hop_mem hp with hp | rfl
    · exact ⟨(h.nr p hp).1, Nat.le_succ_of_le (h.nr p hp).2.1, (h.nr p hp).2.2⟩
    · exact ⟨List.nodup_nil, Nat.zero_le _, fun q h => by cases h⟩
  · show (dval (row (Sp.hop z.1 a) x) y).getD 0 = _
    rw [row_hop, h.vl]
  · show g x = ((row (Sp.hop z.1 a) x).map (·.2)).sum
    rw [row_hop, h.sm]
theorem Gd.put (h : Gd f g N z) {a b : Txt} {m : Int} (hm : 0 < m) (hs : (dval z.1 a).isSome = true) : Gd (fun x y => f x y + if x = a ∧ y = b then m else 0) (fun x => g x + if x = a then m else 0) (N + 1) (cput a b m z) ∧ (dval (cput a b m z).1 a).isSome = true := by
  obtain ⟨r1, r2, r3⟩ := h.rowP a
  have er : ∀ x, row (rset z.1 a (dput (row z.1 a) b ((dval (row z.1 a) b).getD 0 + m))) x = if a = x then dput (row z.1 a) b ((dval (row z.1 a) b).getD 0 + m) else row z.1 x := by
    intro x
    unfold row
    rw [rset_val _ _ _ _ hs]
    by_cases c : a = x
    · rw [if_pos c, if_pos c]; rfl
    · rw [if_neg c, if_neg c]
  have hv0 : 0 ≤ (dval (row z.1 a) b).getD 0 := by
    cases e : dval (row z.1 a) b with
    | none => exact Int.le_refl _
    | some v => exact Int.le_of_lt (r3 _ (dval_mem e))
  refine ⟨⟨by rw [rset_keys]; exact h.nk, fun p hp => ?_, fun x y => ?_, fun x => ?_, fun x => ?_, by rw [rset_len]; exact Nat.le_succ_of_le h.l1, Nat.le_trans dput_len (by have := h.l2; omega)⟩, ?_⟩
  · rcases rset_mem hp with hp | e
    · exact ⟨(h.nr p hp).1, Nat.le_succ_of_le (h.nr p hp).2.1, (h.nr p hp).2.2⟩
    · rw [e]
      refine ⟨dput_nd r1, Nat.le_trans dput_len (Nat.succ_le_succ r2), fun q hq => ?_⟩
      rcases dput_mem hq with hq | rfl
      · exact r3 q hq
      · show 0 < (dval (row z.1 a) b).getD 0 + m
        omega
  · show (dval (row (rset z.1 a (dput (row z.1 a) b _)) x) y).getD 0 = _
    rw [er]
    by_cases c : a = x
    · subst c
      rw [if_pos rfl, dval_put]
      by_cases d : b = y
      · subst d
        rw [if_pos rfl, if_pos ⟨rfl, rfl⟩, ← h.vl]; rfl
      · rw [if_neg d, if_neg fun e => d e.2.symm, h.vl]; omega
    · rw [if_neg c, if_neg fun e => c e.1.symm, h.vl]; omega
  · show (dval (dput z.2 a _) x).getD 0 = _
    rw [dval_put]
    by_cases c : a = x
    · subst c; rw [if_pos rfl, if_pos rfl, ← h.wl]; rfl
    · rw [if_neg c, if_neg (Ne.symm c), h.wl]; omega
  · show _ = ((row (rset z.1 a (dput (row z.1 a) b _)) x).map (·.2)).sum
    rw [er]
    by_cases c : a = x
    · subst c
      rw [if_pos rfl, if_pos rfl, dput_sum _ r1, h.sm]
    · rw [if_neg c, if_neg (Ne.symm c), h.sm]; omega
  · show (dval (rset z.1 a _) a).isSome = true
    rw [rset_val _ _ _ _ hs, if_pos rfl]; rfl
theorem Gd.nil : Gd (fun _ _ => 0) (fun _ => 0) 0 (([], []) : Rws × Whl) := ⟨List.nodup_nil, fun p h => (List.not_mem_nil h).elim, fun _ _ => rfl, fun _ => rfl, fun _ => rfl, Nat.le_refl _, Nat.le_refl _⟩
end
abbrev cM (M : List St2) (a b : Txt) : Int := ((cnt M (a, b) : Nat) : Int)
abbrev cS (M : List St2) (a : Txt) : Int := ((List.length ((M.filter (fun x : St2 => decide (x.1 = a))).map fun x => x) : Nat) : Int)
abbrev GM (M : List St2) (z : Rws × Whl) : Prop := Gd (cM M) (cS M) M.length z
theorem cM_snoc (M : List St2) (p : St2) (x y : Txt) : cM (M ++ [p]) x y = cM M x y + if x = p.1 ∧ y = p.2 then 1 else 0 := by
  unfold cM cnt
  rw [List.countP_append, List.countP_cons, List.countP_nil]
  by_cases c : x = p.1 ∧ y = p.2
  · rw [if_pos c, if_pos (by rw [decide_eq_true_eq, c.1, c.2])]; omega
  · rw [if_neg c, if_neg (by rw [decide_eq_true_eq]; intro e; exact c ⟨by rw [e], by rw [e]⟩)]; omega
theorem cS_snoc (M : List St2) (p : St2) (x : Txt) : cS (M ++ [p]) x = cS M x + if x = p.1 then 1 else 0 := by
  unfold cS
  rw [List.map_id', List.map_id', List.filter_append, List.length_append, List.filter_cons]
  by_cases c : x = p.1
  · rw [if_pos c, if_pos (by rw [decide_eq_true_eq, c])]; simp
  · rw [if_neg c, if_neg (by rw [decide_eq_true_eq]; exact Ne.symm c)]; simp
theorem GM.step {M : List St2} {z : Rws × Whl} (h : GM M z) (p : St2) : GM (M ++ [p]) (cput p.1 p.2 1 (hop z.1 p.1, z.2)) := by
  have h1 := h.hop p.1
  have h2 := (h1.put (b := p.2) (m := 1) (by decide) (hop_some _ _)).1
  have h3 := h2.congr (fun a b => (cM_snoc M p a b).symm) fun a => (cS_snoc M p a).symm
  refine ⟨h3.nk, fun q hq => ?_, h3.vl, h3.wl, h3.sm, ?_, ?_⟩
  · refine ⟨(h3.nr q hq).1, ?_, (h3.nr q hq).2.2⟩
    rw [List.length_append]
    rcases rset_mem hq with hq | e
    · rcases hop_mem hq with hq | rfl
      · exact Nat.le_succ_of_le (h.nr q hq).2.1
      · exact Nat.zero_le _
    · rw [e]
      refine Nat.le_trans dput_len (Nat.succ_le_succ ?_)
      show (row (hop z.1 p.1) p.1).length ≤ _
      rw [row_hop]
      exact (h.rowP p.1).2.1
  · show (rset (hop z.1 p.1) p.1 _).length ≤ _
    rw [rset_len, List.length_append]
    exact Nat.le_trans (hop_len _ _) (Nat.succ_le_succ h.l1)
  · rw [List.length_append]
    exact Nat.le_trans dput_len (Nat.succ_le_succ h.l2)
theorem GM.nil : GM [] (([], []) : Rws × Whl) := Gd.nil
end K08
set_option maxHeartbeats 400000
namespace K08
open PySem L2 Sp
open PySem.W (DatumOrd listLt)
abbrev dots (n : Nat) : Txt := List.replicate n 46
abbrev tt (n : Nat) (w : Txt) : Txt := (dots n ++ w) ++ [46]
def rnw (n : Nat) (w : Txt) : Txt := (dots n ++ w).drop w.length
def pre (n : Nat) (w : Txt) : List St2 := (List.range w.length).map fun k => (rnw n (w.take k), [gt w k])
def stp (n : Nat) (w : Txt) : List St2 := pre n w ++ [(rnw n w, [46])]
abbrev sz (n : Nat) : Int := (n : Int) + (1 : Int)
theorem dot1 : (tx "." : Txt) = [46] := rfl
theorem repS_dot (n : Nat) : repS (tx ".") (sz n - (1 : Int)) = dots n := by
  unfold repS
  rw [show (sz n - (1 : Int)).toNat = n by unfold sz; omega, dot1]
  induction n with
  | zero => rfl
  | succ n ih => rw [List.replicate_succ, List.flatten_cons, ih]; rfl
theorem dots_len (n : Nat) : (dots n).length = n := List.length_replicate ..
theorem tt_len (n : Nat) (w : Txt) : (tt n w).length = n + w.length + 1 := by unfold tt; rw [List.length_append, List.length_append, dots_len]; rfl
theorem stp_len (n : Nat) (w : Txt) : (stp n w).length = w.length + 1 := by unfold stp pre; rw [List.length_append, List.length_map, List.length_range]; rfl
theorem tt_spl {n k : Nat} {w : Txt} (h : k ≤ w.length) : tt n w = (dots n ++ w.take k) ++ (w.drop k ++ [46]) ∧ (dots n ++ w.take k).length = n + k := by
  refine ⟨?_, by rw [List.length_append, dots_len, List.length_take]; omega⟩
  unfold tt
  simp only [List.append_assoc]
  rw [← List.append_assoc (w.take k), List.take_append_drop]
theorem at_cut {n k : Nat} {w : Txt} (h : k ≤ w.length) : cutD (tt n w) (some (k : Int)) (some (((k : Int) + sz n) - (1 : Int))) = rnw n (w.take k) := by
  rw [show ((k : Int) + sz n) - (1 : Int) = ((k + n : Nat) : Int) by unfold sz; omega, cut_mid, show k + n - k = n by omega]
  obtain ⟨e, l⟩ := tt_spl (n := n) h
  rw [e]
  unfold rnw
  rw [List.drop_append_of_le_length (by rw [l]; omega), show (w.take k).length = k by rw [List.length_take]; omega]
  rw [List.take_append_of_le_length (by rw [List.length_drop, l]; omega)]
  rw [List.take_of_length_le (by rw [List.length_drop, l]; omega)]
abbrev sgn (w : Txt) (k : Nat) : Txt := if k < w.length then [gt w k] else [46]
theorem at_ix {n k : Nat} {w : Txt} (h : k ≤ w.length) : ixS (tt n w) (((k : Int) + sz n) - (1 : Int)) = sgn w k := by
  obtain ⟨e, l⟩ := tt_spl (n := n) h
  rw [show ((k : Int) + sz n) - (1 : Int) = ((n + k : Nat) : Int) by unfold sz; omega, ixg (by rw [tt_len]; omega)]
  have e2 : gt (tt n w) (n + k) = if k < w.length then gt w k else 46 := by
    rw [e, ← l]
    by_cases c : k < w.length
    · rw [if_pos c, dropg c, List.cons_append, gt_at]
    · rw [if_neg c, List.drop_eq_nil_of_le (by omega), List.nil_append, gt_at]
  rw [e2]
  unfold sgn
  by_cases c : k < w.length
  · rw [if_pos c, if_pos c]
  · rw [if_neg c, if_neg c]
theorem stp_range (n : Nat) (w : Txt) : stp n w = (List.range (w.length + 1)).map fun k => (rnw n (w.take k), sgn w k) := by
  rw [List.range_succ, List.map_append]
  unfold stp pre
  congr 1
  · refine List.map_congr_left fun k hk => ?_
    unfold sgn
    rw [if_pos (List.mem_range.mp hk)]
  · show _ = [(rnw n (w.take w.length), sgn w w.length)]
    unfold sgn
    rw [List.take_length, if_neg (Nat.lt_irrefl _)]
theorem stp_text (n : Nat) (w : Txt) : (((List.range (w.length + 1)).map fun i : Nat => (i : Int)).map (fun (x4 : Int) => ((cutD (tt n w) (some x4) (some ((x4 + sz n) - (1 : Int)))), (ixS (tt n w) ((x4 + sz n) - (1 : Int)))))) = stp n w := by
  rw [stp_range, List.map_map]
  refine List.map_congr_left fun k hk => ?_
  have hk := List.mem_range.mp hk
  show (_, _) = _
  rw [at_cut (by omega), at_ix (by omega)]
theorem in_tt {n k : Nat} {w : Txt} (h : k ≤ w.length) : inR (tt n w).length (((k : Int) + sz n) - (1 : Int)) := ir (k := k + n) (by unfold sz; omega) (by rw [tt_len]; omega)
section
variable {n : Nat} {w : Txt} {E : Ex → Prop}
theorem rep_ok (hn : n ≤ 3) : (-(2 ^ 63) ≤ (sz n - (1 : Int)) ∧ List.length (tx ".") * ((sz n - (1 : Int))).toNat ≤ 16777216 ∧ (sz n - (1 : Int)) ≤ 16777216) := by
  rw [show List.length (tx ".") = 1 from rfl]
  unfold sz
  omega
theorem cat_ok (hn : n ≤ 3) (hw : w.length ≤ 100) : List.length (repS (tx ".") (sz n - (1 : Int))) + w.length ≤ sizeLine ∧ List.length ((repS (tx ".") (sz n - (1 : Int))) ++ w) + List.length (tx ".") ≤ sizeLine := by
  rw [repS_dot, List.length_append, dots_len]
  exact ⟨sl (by omega), sl (by show n + w.length + 1 ≤ _; omega)⟩
theorem lsteps_ok {Q : List St2 → Prop} (hn : n ≤ 3) (hw : w.length ≤ 100) (q : Q (stp n w)) : law_steps_W (w, sz n, ()) Q E := by
  refine ⟨rep_ok hn, (cat_ok hn hw).1, (cat_ok hn hw).2, ?_⟩
  show law_steps_w1 w (sz n) ((repS (tx ".") (sz n - (1 : Int)) ++ w) ++ tx ".") Q
  rw [repS_dot]
  have st : (tt n w).length ≤ sizeLine := sl (by rw [tt_len]; omega)
  refine ⟨sl (by omega), ⟨by omega, by omega⟩, ?_, ?_, ?_⟩
  · rw [List.length_map, List.length_range]; exact sl (by omega)
  · intro x hx
    obtain ⟨k, hk, rfl⟩ := List.mem_map.mp hx
    have hk := List.mem_range.mp hk
    exact ⟨st, st, in_tt (by omega), rfl⟩
  · show Q ((((List.range (((w.length : Int) + (1 : Int))).toNat)).map fun i : Nat => (i : Int)).map _)
    rw [show ((w.length : Int) + (1 : Int)).toNat = w.length + 1 by omega]
    exact (stp_text n w).symm ▸ q
theorem tt_cnt (n : Nat) (w : Txt) : ((((tt n w).length : Int) - sz n) + (1 : Int)).toNat = w.length + 1 := by rw [tt_len]; unfold sz; omega
theorem steps_ok {c : CountsV} {Q : Tup St2 → Prop} (hs : c.size = sz n) (hn : n ≤ 3) (hw : w.length ≤ 100) (q : Q ⟨stp n w⟩) : Counts_steps_along_W (c, w, ()) Q E := by
  obtain ⟨s, r, h⟩ := c
  subst hs
  refine ⟨rep_ok hn, (cat_ok hn hw).1, (cat_ok hn hw).2, ?_⟩
  show Counts_steps_along_w1 ⟨sz n, r, h⟩ ((repS (tx ".") (sz n - (1 : Int)) ++ w) ++ tx ".") Q
  rw [repS_dot]
  have st : (tt n w).length ≤ sizeLine := sl (by rw [tt_len]; omega)
  refine ⟨st, ?_, ?_, ?_, ?_⟩
  · show (-(2 ^ 62) ≤ (((tt n w).length : Int) - sz n) + (1 : Int)) ∧ (((tt n w).length : Int) - sz n) + (1 : Int) < 2 ^ 62
    rw [tt_len]; unfold sz; omega
  · show List.length (((List.range ((((tt n w).length : Int) - sz n) + (1 : Int)).toNat)).map fun i : Nat => (i : Int)) ≤ _
    rw [tt_cnt, List.length_map, List.length_range]; exact sl (by omega)
  · show ∀ x4 ∈ (((List.range ((((tt n w).length : Int) - sz n) + (1 : Int)).toNat)).map fun i : Nat => (i : Int)), _
    rw [tt_cnt]
    intro x hx
    obtain ⟨k, hk, rfl⟩ := List.mem_map.mp hx
    have hk := List.mem_range.mp hk
    exact ⟨st, st, in_tt (by omega), rfl⟩
  · show Q ⟨(((List.range ((((tt n w).length : Int) - sz n) + (1 : Int)).toNat)).map fun i : Nat => (i : Int)).map _⟩
    rw [tt_cnt]
    exact (stp_text n w).symm ▸ q
abbrev AZ : Txt := tx "abcdefghijklmnopqrstuvwxyz"
theorem check_ok {Q : Unit → Prop} (h1 : 1 ≤ w.length) (h2 : w.length ≤ 24) (h : ∀ c ∈ w, c ∈ AZ) (q : Q ()) : check_word_W (w, ()) Q E := by
  have e : ((!(decide ((1 : Int) ≤ (w.length : Int)) && decide ((w.length : Int) ≤ (24 : Int)))) || ((w.map fun c => [c]).any (fun (x2 : Txt) => (!tin x2 (tx "abcdefghijklmnopqrstuvwxyz"))))) = false := by
    rw [decide_eq_true (show (1 : Int) ≤ (w.length : Int) by omega), decide_eq_true (show (w.length : Int) ≤ 24 by omega)]
    rw [Bool.or_eq_false_iff]
    refine ⟨rfl, ?_⟩
    rw [List.any_eq_false]
    intro x hx
    obtain ⟨c, hc, rfl⟩ := List.mem_map.mp hx
    rw [tin_one, decide_eq_true (h c hc)]
    decide
  exact ⟨sl (show w.length ≤ 1000000 by omega), fun _ => rfl, fun _ => ⟨rfl, fun _ _ => rfl, rfl⟩, fun g => (by rw [e] at g; cases g), fun _ => q⟩
theorem check_A {Q : Unit → Prop} (e : E .BadWord) : check_word_W (tx "A", ()) Q E :=
  ⟨sl (by decide), fun _ => rfl, fun _ => ⟨rfl, fun _ _ => rfl, rfl⟩, fun _ => e, fun g => by
    have g2 : (!(decide ((1 : Int) ≤ (1 : Int)) && decide ((1 : Int) ≤ (24 : Int))) || ([[65]].any fun (x2 : Txt) => (!tin x2 AZ))) = false := g
    rw [List.any_cons, tin_one] at g2
    exact absurd g2 (by decide)⟩
structure Wb (w : Txt) : Prop where
  ls : ∀ c ∈ w, c ∈ (tx "abc" : Txt)
  l1 : 1 ≤ w.length
  l4 : w.length ≤ 4
theorem abc_az : ∀ c ∈ (tx "abc" : Txt), c ∈ AZ := by decide
theorem tell_ok {M : List St2} {z : Rws × Whl} {Q : Rws × Whl → Prop} (hn : n ≤ 3) (W : Wb w) (hM : M.length ≤ 1000) (h : GM M z) (q : ∀ z', GM (M ++ stp n w) z' → Q z') : Counts_tell_W (sz n, z, w, (1 : Int)) Q E := by
  have := W.l4
  have hw : w.length ≤ 100 := by omega
  refine Cl.here (check_ok W.l1 (show w.length ≤ 24 by omega) (fun c hc => abc_az c (W.ls c hc)) ?_)
  refine ⟨rep_ok hn, (cat_ok hn hw).1, (cat_ok hn hw).2, ?_⟩
  show Counts_tell_w1 (sz n) ((repS (tx ".") (sz n - (1 : Int)) ++ w) ++ tx ".") 1 z Q
  rw [repS_dot]
  have st : (tt n w).length ≤ sizeLine := sl (by rw [tt_len]; omega)
  refine ⟨st, ?_, ?_⟩
  · show (-(2 ^ 62) ≤ (((tt n w).length : Int) - sz n) + (1 : Int)) ∧ (((tt n w).length : Int) - sz n) + (1 : Int) < 2 ^ 62
    rw [tt_len]; unfold sz; omega
  show forW (((List.range ((((tt n w).length : Int) - sz n) + (1 : Int)).toNat)).map fun i : Nat => (i : Int)) z _ Q
  rw [tt_cnt]
  refine forR (fun k z => GM (M ++ (stp n w).take k) z) (by simpa using h) (fun k z1 hk h1 nx hnx => ?_) fun z1 h1 => q z1 ?_
  · refine ⟨st, st, in_tt (by omega), ?_⟩
    show Counts_tell_c (cutD (tt n w) _ _) (ixS (tt n w) _) 1 z1 nx
    rw [at_cut (by omega), at_ix (by omega)]
    have hl : (M ++ (stp n w).take k).length ≤ 1010 := by rw [List.length_append, List.length_take]; omega
    refine ⟨sl2 (by have := h1.l1; omega), ?_, sl2 (by have := h1.l2; omega), hnx _ ?_⟩
    · show (row (hop z1.1 _) _).length < _
      rw [row_hop]
      exact sl2 (by have := (h1.rowP (rnw n (w.take k))).2.1; omega)
    · have hg : (stp n w)[k]? = some (rnw n (w.take k), sgn w k) := by
        rw [stp_range, List.getElem?_map, List.getElem?_range hk]; rfl
      rw [List.take_add_one, hg, ← List.append_assoc]
      exact h1.step (rnw n (w.take k), sgn w k)
  · rw [List.take_of_length_le (by rw [stp_len]; exact Nat.le_refl _)] at h1
    exact h1
abbrev CV (n : Nat) (z : Rws × Whl) : CountsV := CountsV.mk (sz n) (Dct.mk (frzH z.1)) (Dct.mk z.2)
abbrev ST (n : Nat) (ws : List Txt) : List St2 := ws.flatMap (stp n)
theorem ST_len : ∀ ws : List Txt, (∀ w ∈ ws, Wb w) → (ST n ws).length ≤ 5 * ws.length
  | [], _ => Nat.le_refl _
  | w :: r, h => by
    have := ST_len r fun x hx => h x (List.mem_cons_of_mem _ hx)
    have := (h w List.mem_cons_self).l4
    show (stp n w ++ ST n r).length ≤ _
    rw [List.length_append, stp_len, List.length_cons]
    omega
theorem init_ok {ws : List Txt} {Q : CountsV → Prop} (hn : n ≤ 3) (hw : ∀ w ∈ ws, Wb w) (hl : ws.length ≤ 20) (q : ∀ z, GM (ST n ws) z → Q (CV n z)) : Counts_init_W (ws, sz n, ()) Q E := by
  have e : (!(decide ((1 : Int) ≤ sz n) && decide (sz n ≤ (4 : Int)))) = false := by
    unfold sz
    rw [decide_eq_true (show (1 : Int) ≤ (n : Int) + 1 by omega), decide_eq_true (show (n : Int) + 1 ≤ 4 by omega)]
    rfl
  refine ⟨fun _ => rfl, no_ e ?_⟩
  show forW ws (([], []) : Rws × Whl) _ _
  refine forL (fun l z => GM (ST n l) z) GM.nil (fun l x r z he h nx hnx => ?_) fun z h => q z h
  have hm : x ∈ ws := by rw [he]; simp
  have hll := ST_len (n := n) l fun y hy => hw y (by rw [he]; exact List.mem_append_left _ hy)
  have hl2 : l.length ≤ 20 := by have := congrArg List.length he; rw [List.length_append] at this; omega
  refine Cl.here (tell_ok hn (hw x hm) (by omega) h fun z' h' => hnx _ ?_)
  show GM (ST n (l ++ [x])) z'
  rw [show ST n (l ++ [x]) = ST n l ++ stp n x by unfold ST; rw [List.flatMap_append]; simp]
  exact h'
theorem init_5 {Q : CountsV → Prop} (e : E .BadCount) : Counts_init_W (([] : List Txt), (5 : Int), ()) Q E :=
  ⟨fun _ => rfl, fun _ => e, fun g => absurd g (by decide)⟩
theorem init_A {Q : CountsV → Prop} (e : E .BadWord) : Counts_init_W ([tx "A"], (1 : Int), ()) Q E := by
  refine ⟨fun _ => rfl, no_ (by decide) ?_⟩
  refine ⟨fun i z => i = 0, rfl, fun i x z hx hi => ?_, fun z h => by cases h⟩
  subst hi
  cases hx
  exact Cl.exc (e := .BadWord) (by refine ⟨fun _ => False, (fun x => x = .BadWord), check_A rfl, fun _ h => h.elim, fun _ h => h⟩) e
end
theorem dval_frz (m : Rws) (k : Txt) : (dval (frzH m) k).getD (Dct.mk ([] : List (Txt × Int))) = Dct.mk (row m k) := by
  unfold row frzH
  induction m with
  | nil => rfl
  | cons p r ih =>
    rw [List.map_cons, dval_cons, dval_cons]
    by_cases c : p.1 = k
    · rw [if_pos c, if_pos c]; rfl
    · rw [if_neg c, if_neg c]; exact ih
section
variable {n : Nat} {f : Txt → Txt → Int} {g : Txt → Int} {N : Nat} {z : Rws × Whl} {a b : Txt} {E : Ex → Prop} {Q : Int × Int → Prop}
theorem share_ok (h : Gd f g N z) (q : Q (f a b, g a)) : Counts_share_W (CV n z, a, b, ()) Q E := by
  show Q ((dval ((dval (frzH z.1) a).getD (Dct.mk ([] : List (Txt × Int)))).kvs b).getD 0, (dval z.2 a).getD 0)
  rw [dval_frz]
  show Q ((dval (row z.1 a) b).getD 0, _)
  rw [h.vl, h.wl]
  exact q
theorem smooth_ok (h : Gd f g N z) (q : Q (f a b + 1, g a + 27)) : Counts_smooth_W (CV n z, a, b, ()) Q E := Cl.here (share_ok h q)
end
end K08
set_option maxHeartbeats 400000
namespace K08
open PySem L2 Sp
open PySem.W (DatumOrd listLt)
abbrev NP : Type := Nat × Nat
abbrev cI (x : NP) : Int × Int := ((x.1 : Int), (x.2 : Int))
def pA (ps : List NP) : Nat := ps.foldl (fun s x => s * x.1) 1
def pB (ps : List NP) : Nat := ps.foldl (fun s x => s * x.2) 1
theorem pA_snoc (l : List NP) (x : NP) : pA (l ++ [x]) = pA l * x.1 := by unfold pA; rw [List.foldl_append]; rfl
theorem pB_snoc (l : List NP) (x : NP) : pB (l ++ [x]) = pB l * x.2 := by unfold pB; rw [List.foldl_append]; rfl
theorem small {a : Nat} (h : a ≤ 1000000000000) (i : Int) : CMul i (a : Int) := .inr ⟨by omega, by omega⟩
theorem prod_ok {ps : List NP} {Q : Int × Int → Prop} {E : Ex → Prop} (hp : ∀ x ∈ ps, x.1 ≤ 1000 ∧ x.2 ≤ 1000) (q : Q ((pA ps : Int), (pB ps : Int))) : law_product_W (ps.map cI, ()) Q E := by
  show forW (ps.map cI) ((1 : Int), (1 : Int)) _ _
  refine forLM (fun l z => z = ((pA l : Int), (pB l : Int))) rfl (fun l x r z he h nx hnx => ?_) fun z h => (by subst h; exact q)
  subst h
  obtain ⟨h1, h2⟩ := hp x (by rw [he]; simp)
  refine ⟨small (by omega) _, small (by omega) _, hnx _ ?_⟩
  rw [pA_snoc, pB_snoc]
  simp
theorem lowest_ok {p q : Nat} {Q : Int × Int → Prop} {E : Ex → Prop} (hq : 0 < q) (hb : q < 1073741824) (h : Q (((p / p.gcd q : Nat) : Int), ((q / p.gcd q : Nat) : Int))) : lowest_W ((p : Int), (q : Int), ()) Q E := by
  refine ⟨fun z => ∃ x y : Nat, z = ((x : Int), (y : Int)) ∧ x.gcd y = p.gcd q, fun z => z.2.toNat, ⟨p, q, rfl, rfl⟩, ?_⟩
  rintro z ⟨x, y, rfl, e⟩
  refine ⟨fun hc => ?_, fun hc => ?_⟩
  · have hy : (y : Int) ≠ 0 := of_decide_eq_true hc
    have hy0 : 0 < y := by omega
    refine ⟨show (0 : Int) < (y : Int) by omega, ⟨y, x % y, by simp, ?_⟩, ?_⟩
    · rw [← e, Nat.gcd_comm x y, Nat.gcd_rec y x, Nat.gcd_comm]
    · show ((x : Int) % (y : Int)).toNat < (y : Int).toNat
      have := Nat.mod_lt x hy0
      omega
  · have hy : (y : Int) = 0 := Classical.byContradiction fun g => (by rw [show decide ((((x : Int), (y : Int)) : Int × Int).2 ≠ 0) = true from decide_eq_true g] at hc; cases hc)
    have hy0 : y = 0 := by omega
    subst hy0
    rw [Nat.gcd_zero_right] at e
    have hx0 : 0 < x := by rw [e]; exact Nat.gcd_pos_of_pos_right _ hq
    have hxl : x ≤ q := by rw [e]; exact Nat.gcd_le_right _ hq
    have hne : decide ((x : Int) ≠ (0 : Int)) = true := decide_eq_true (by omega)
    show lowest_w2 (p : Int) (q : Int) (x : Int) Q
    refine ⟨fun _ => ⟨⟨by omega, by omega⟩, ⟨by omega, by omega⟩, rfl⟩, fun g => absurd hne (by rw [g]; decide), ?_⟩
    rw [if_pos hne, e]
    exact h
structure Lw (A B : Nat) (t b : Nat) : Prop where
  eq : t * B = A * b
  cop : t.gcd b = 1
  pos : 0 < b
theorem Lw.step {A B t b : Nat} (h : Lw A B t b) {x y : Nat} (hy : 0 < y) : Lw (A * x) (B * y) ((t * x) / (t * x).gcd (b * y)) ((b * y) / (t * x).gcd (b * y)) := by
  have hby : 0 < b * y := Nat.mul_pos h.pos hy
  have hg : 0 < (t * x).gcd (b * y) := Nat.gcd_pos_of_pos_right _ hby
  obtain ⟨u, hu⟩ := Nat.gcd_dvd_left (t * x) (b * y)
  obtain ⟨v, hv⟩ := Nat.gcd_dvd_right (t * x) (b * y)
  have eu : (t * x) / (t * x).gcd (b * y) = u := by
    conv => lhs; lhs; rw [hu]
    exact Nat.mul_div_cancel_left _ hg
  have ev : (b * y) / (t * x).gcd (b * y) = v := by
    conv => lhs; lhs; rw [hv]
    exact Nat.mul_div_cancel_left _ hg
  rw [eu, ev]
  have hvp : 0 < v := Nat.pos_of_ne_zero fun e => by rw [e, Nat.mul_zero] at hv; omega
  refine ⟨?_, ?_, hvp⟩
  · refine Nat.eq_of_mul_eq_mul_left hg ?_
    calc (t * x).gcd (b * y) * (u * (B * y)) = ((t * x).gcd (b * y) * u) * (B * y) := (Nat.mul_assoc _ _ _).symm
      _ = (t * x) * (B * y) := by rw [← hu]
      _ = (t * B) * (x * y) := by simp only [Nat.mul_left_comm, Nat.mul_comm, Nat.mul_assoc]
      _ = (A * b) * (x * y) := by rw [h.eq]
      _ = (A * x) * (b * y) := by simp only [Nat.mul_left_comm, Nat.mul_comm, Nat.mul_assoc]
      _ = (A * x) * ((t * x).gcd (b * y) * v) := by rw [← hv]
      _ = (t * x).gcd (b * y) * (A * x * v) := Nat.mul_left_comm _ _ _
  · refine Nat.eq_of_mul_eq_mul_left hg ?_
    rw [← Nat.gcd_mul_left, ← hu, ← hv, Nat.mul_one]
theorem same_ok {A B t b : Nat} {Q : Bool → Prop} {E : Ex → Prop} (h : Lw A B t b) (hb : b ≤ 1000000000000) (hB : B ≤ 1000000000000) (q : Q true) : law_same_W (((t : Int), (b : Int)), (A : Int), (B : Int), ()) Q E := by
  have e : ((t : Int) * (B : Int)) = (A : Int) * (b : Int) := by exact_mod_cast h.eq
  refine ⟨small hB _, small hb _, ne_no e ?_⟩
  have hm : (min (b : Int) (999 : Int)) ≤ 999 := Int.min_le_right _ _
  have hm0 : 0 ≤ (min (b : Int) (999 : Int)) := by omega
  refine ⟨⟨by decide, by decide, ?_, ?_⟩, ?_, fun x hx => ?_, fun _ _ _ => rfl, ?_⟩
  · show -(2 ^ 62) ≤ (min (b : Int) (999 : Int)) + 1; omega
  · show (min (b : Int) (999 : Int)) + 1 < 2 ^ 62; omega
  · rw [List.length_map, List.length_range]; exact sl (by show ((min (b : Int) (999 : Int)) + 1 - 2).toNat ≤ _; omega)
  · obtain ⟨k, hk, rfl⟩ := List.mem_map.mp hx
    exact ⟨show (0 : Int) < 2 + (k : Int) by omega, fun _ => ⟨show (0 : Int) < 2 + (k : Int) by omega, fun _ => rfl, rfl⟩, rfl⟩
  · have e2 : ∀ l : List Int, (∀ x ∈ l, 2 ≤ x) → (l.filter fun (x5 : Int) => ((decide (((t : Int) % x5) = (0 : Int))) && ((decide (((b : Int) % x5) = (0 : Int))) && (decide ((0 : Int) < (t : Int)))))) = [] := by
      intro l hl
      rw [List.filter_eq_nil_iff]
      intro x hx g
      simp only [Bool.and_eq_true, decide_eq_true_eq] at g
      have h2 := hl x hx
      obtain ⟨y, rfl⟩ : ∃ y : Nat, x = (y : Int) := ⟨x.toNat, by omega⟩
      have d1 : y ∣ t := Int.natCast_dvd_natCast.mp (Int.dvd_of_emod_eq_zero g.1)
      have d2 : y ∣ b := Int.natCast_dvd_natCast.mp (Int.dvd_of_emod_eq_zero g.2.1)
      have := Nat.dvd_gcd d1 d2
      rw [h.cop] at this
      have := Nat.le_of_dvd (by decide) this
      omega
    have e3 := e2 ((List.range (((min (b : Int) (999 : Int)) + (1 : Int)) - (2 : Int)).toNat).map fun i : Nat => (2 : Int) + (i : Int)) fun x hx => by
      obtain ⟨k, hk, rfl⟩ := List.mem_map.mp hx
      omega
    show Q (decide (((List.filter _ _).map fun (x5 : Int) => x5) = ([] : List Int)))
    rw [e3]
    exact q
theorem Lw.lt {A B t b A' B' t' b' : Nat} (h : Lw A B t b) (h' : Lw A' B' t' b') (hB : 0 < B) (hB' : 0 < B') : t * b' < t' * b ↔ A * B' < A' * B := by
  have hk : 0 < B * B' := Nat.mul_pos hB hB'
  have hb : 0 < b * b' := Nat.mul_pos h.pos h'.pos
  have e1 : (B * B') * (t * b') = (b * b') * (A * B') := by
    rw [show (B * B') * (t * b') = (t * B) * (B' * b') by simp only [Nat.mul_left_comm, Nat.mul_comm, Nat.mul_assoc], h.eq]
    simp only [Nat.mul_left_comm, Nat.mul_comm, Nat.mul_assoc]
  have e2 : (B * B') * (t' * b) = (b * b') * (A' * B) := by
    rw [show (B * B') * (t' * b) = (t' * B') * (B * b) by simp only [Nat.mul_left_comm, Nat.mul_comm, Nat.mul_assoc], h'.eq]
    simp only [Nat.mul_left_comm, Nat.mul_comm, Nat.mul_assoc]
  rw [← Nat.mul_lt_mul_left hk, e1, e2, Nat.mul_lt_mul_left hb]
structure Lz (l : List NP) (z : Int × Int) : Prop where
  ex : ∃ t b : Nat, z = ((t : Int), (b : Int)) ∧ Lw (pA l) (pB l) t b ∧ b ≤ pB l
theorem Lz.nil : Lz [] ((1 : Int), (1 : Int)) := ⟨1, 1, rfl, ⟨rfl, rfl, by decide⟩, Nat.le_refl _⟩
theorem pB_le : ∀ (l : List NP), (∀ x ∈ l, x.2 ≤ 62) → pB l ≤ 62 ^ l.length := snocInd (fun _ => Nat.le_refl _) fun l x ih h => by
  rw [pB_snoc, List.length_append]
  exact Nat.mul_le_mul (ih fun y hy => h y (List.mem_append_left _ hy)) (h x (by simp))
theorem pB_pos : ∀ (l : List NP), (∀ x ∈ l, 0 < x.2) → 0 < pB l := snocInd (fun _ => by decide) fun l x ih h => by
  rw [pB_snoc]
  exact Nat.mul_pos (ih fun y hy => h y (List.mem_append_left _ hy)) (h x (by simp))
theorem pA_zero : ∀ (l : List NP), pA l = 0 ↔ ∃ x ∈ l, x.1 = 0 := snocInd ⟨fun h => (by cases h), fun ⟨_, h, _⟩ => (by cases h)⟩ fun l x ih => by
  rw [pA_snoc, Nat.mul_eq_zero, ih]
  constructor
  · rintro (⟨y, h1, h2⟩ | h)
    · exact ⟨y, List.mem_append_left _ h1, h2⟩
    · exact ⟨x, by simp, h⟩
  · rintro ⟨y, h1, h2⟩
    rcases List.mem_append.mp h1 with h1 | h1
    · exact .inl ⟨y, h1, h2⟩
    · rw [List.mem_singleton.mp h1] at h2; exact .inr h2
theorem Lz.step {l : List NP} {z : Int × Int} (h : Lz l z) (x : NP) (hx : 0 < x.2) (hx2 : x.2 ≤ 62) (hx1 : x.1 ≤ 62) (hl : l.length ≤ 4) (hm : ∀ y ∈ l, y.2 ≤ 62) {nx : Int × Int → Prop} {E : Ex → Prop} (hn : ∀ z', Lz (l ++ [x]) z' → nx z') : CMul z.1 (x.1 : Int) ∧ CMul z.2 (x.2 : Int) ∧ Cl (lowest_W ((z.1 * (x.1 : Int)), (z.2 * (x.2 : Int)), ())) (fun r => nx (r.1, r.2)) E := by
  obtain ⟨t, b, rfl, hw, hb⟩ := h.ex
  have h1 := pB_le l hm
  have h2 : 62 ^ l.length ≤ 62 ^ 4 := Nat.pow_le_pow_right (by decide) hl
  have h3 : b * x.2 ≤ 62 ^ 4 * 62 := Nat.mul_le_mul (Nat.le_trans hb (Nat.le_trans h1 h2)) hx2
  refine ⟨small (by omega) _, small (by omega) _, ?_⟩
  rw [show ((t : Int) * (x.1 : Int)) = ((t * x.1 : Nat) : Int) by simp, show ((b : Int) * (x.2 : Int)) = ((b * x.2 : Nat) : Int) by simp]
  refine Cl.here (lowest_ok (Nat.mul_pos hw.pos hx) (by omega) (hn _ ⟨_, _, rfl, ?_, ?_⟩))
  · rw [pA_snoc, pB_snoc]; exact hw.step hx
  · rw [pB_snoc]
    exact Nat.le_trans (Nat.div_le_self _ _) (Nat.mul_le_mul_right _ hb)
end K08
set_option maxHeartbeats 400000
namespace K08
open PySem L2 Sp
open PySem.W (DatumOrd listLt)
abbrev cSn (M : List St2) (a : Txt) : Nat := List.length ((M.filter (fun x : St2 => decide (x.1 = a))).map fun x => x)
def pr (M : List St2) (x : St2) : NP := (cnt M x, cSn M x.1)
def sm (M : List St2) (x : St2) : NP := (cnt M x + 1, cSn M x.1 + 27)
theorem cnt_le (M : List St2) (x : St2) : cnt M x ≤ M.length := List.countP_le_length
theorem cSn_le (M : List St2) (a : Txt) : cSn M a ≤ M.length := by unfold cSn; rw [List.length_map]; exact List.length_filter_le _ _
theorem cnt_cSn (M : List St2) (x : St2) : cnt M x ≤ cSn M x.1 := by
  unfold cSn cnt
  rw [List.length_map, ← List.countP_eq_length_filter]
  refine List.countP_mono_left fun y _ h => ?_
  rw [decide_eq_true_eq] at h ⊢
  rw [h]
theorem cnt_pos2 {M : List St2} {x : St2} : 0 < cnt M x ↔ x ∈ M := by
  unfold cnt
  rw [List.countP_pos_iff]
  constructor
  · rintro ⟨a, h1, h2⟩
    rw [← of_decide_eq_true h2]; exact h1
  · intro h
    exact ⟨x, h, decide_eq_true rfl⟩
section
variable {n : Nat} {M : List St2} {z : Rws × Whl} {w : Txt} {E : Ex → Prop}
theorem shareM (h : GM M z) {x : St2} {Q : Int × Int → Prop} (q : Q (cI (pr M x))) : Counts_share_W (CV n z, x.1, x.2, ()) Q E := share_ok h q
theorem smoothM (h : GM M z) {x : St2} {Q : Int × Int → Prop} (q : Q (cI (sm M x))) : Counts_smooth_W (CV n z, x.1, x.2, ()) Q E := smooth_ok h (by
  have e : (cM M x.1 x.2 + 1, cS M x.1 + 27) = cI (sm M x) := by
    unfold sm cI cM cS cSn
    simp
  rw [e]; exact q)
theorem chance_ok {Q : Int × Int → Prop} (h : GM M z) (hn : n ≤ 3) (hw : w.length ≤ 4) (hM : M.length ≤ 35) (q0 : pA ((stp n w).map (pr M)) = 0 → Q ((0 : Int), (1 : Int)))
    (q1 : pA ((stp n w).map (pr M)) ≠ 0 → ∀ t b : Nat, Lw (pA ((stp n w).map (pr M))) (pB ((stp n w).map (pr M))) t b → b ≤ 1000000000 → Q ((t : Int), (b : Int))) : Counts_chance_W (CV n z, w, ()) Q E := by
  refine Cl.here (steps_ok rfl hn (show w.length ≤ 100 by omega) ?_)
  have hb2 : ∀ x : St2, (pr M x).2 ≤ 62 := fun x => Nat.le_trans (cSn_le M x.1) (by omega)
  show forW (stp n w) ((1 : Int), (1 : Int)) _ _
  refine forL (fun l z => Lz (l.map (pr M)) z ∧ pA (l.map (pr M)) ≠ 0) ⟨Lz.nil, show (1 : Nat) ≠ 0 by decide⟩ (fun l x r y he hy nx hnx => ?_) fun y hy => ?_
  · obtain ⟨hy, hy0⟩ := hy
    refine Cl.here (shareM h ?_)
    have hl : l.length ≤ 4 := by
      have := congrArg List.length he
      rw [stp_len, List.length_append, List.length_cons] at this
      omega
    refine ⟨fun g => q0 ?_, fun g => ?_⟩
    · have g : ((cnt M x : Nat) : Int) = 0 := of_decide_eq_true g
      exact (pA_zero _).mpr ⟨pr M x, List.mem_map.mpr ⟨x, by rw [he]; simp, rfl⟩, by show cnt M x = 0; omega⟩
    · have g : ¬ ((cnt M x : Nat) : Int) = 0 := of_decide_eq_false g
      have hp : 0 < (pr M x).2 := Nat.lt_of_lt_of_le (show 0 < cnt M x by omega) (cnt_cSn M x)
      refine hy.step (pr M x) hp (hb2 x) (Nat.le_trans (cnt_le M x) (by omega)) (by rw [List.length_map]; exact hl) (fun a ha => ?_) fun z' hz' => hnx _ ⟨?_, ?_⟩
      · obtain ⟨b, _, rfl⟩ := List.mem_map.mp ha
        exact hb2 b
      · rw [List.map_append]; exact hz'
      · rw [List.map_append, List.map_cons, List.map_nil, pA_snoc]
        exact Nat.mul_ne_zero hy0 (show cnt M x ≠ 0 by omega)
  · obtain ⟨⟨t, b, rfl, hl, hb⟩, h0⟩ := hy
    refine q1 h0 t b hl (Nat.le_trans hb (Nat.le_trans (pB_le _ fun a ha => ?_) ?_))
    · obtain ⟨c, _, rfl⟩ := List.mem_map.mp ha
      exact hb2 c
    · rw [List.length_map, stp_len]
      exact Nat.le_trans (Nat.pow_le_pow_right (by decide) (show w.length + 1 ≤ 5 by omega)) (by decide)
theorem smch_ok {Q : Int × Int → Prop} (h : GM M z) (hn : n ≤ 3) (hw : w.length ≤ 4) (hM : M.length ≤ 35)
    (q1 : ∀ t b : Nat, Lw (pA ((stp n w).map (sm M))) (pB ((stp n w).map (sm M))) t b → b ≤ 1000000000 → Q ((t : Int), (b : Int))) : Counts_smooth_chance_W (CV n z, w, ()) Q E := by
  refine Cl.here (steps_ok rfl hn (show w.length ≤ 100 by omega) ?_)
  have hb2 : ∀ x : St2, (sm M x).2 ≤ 62 := fun x => (by show cSn M x.1 + 27 ≤ 62; have := cSn_le M x.1; omega)
  show forW (stp n w) ((1 : Int), (1 : Int)) _ _
  refine forL (fun l z => Lz (l.map (sm M)) z) Lz.nil (fun l x r y he hy nx hnx => ?_) fun y hy => ?_
  · refine Cl.here (smoothM h ?_)
    have hl : l.length ≤ 4 := by
      have := congrArg List.length he
      rw [stp_len, List.length_append, List.length_cons] at this
      omega
    refine hy.step (sm M x) (Nat.succ_pos _) (hb2 x) (by show cnt M x + 1 ≤ 62; have := cnt_le M x; omega) (by rw [List.length_map]; exact hl) (fun a ha => ?_) fun z' hz' => hnx _ ?_
    · obtain ⟨b, _, rfl⟩ := List.mem_map.mp ha
      exact hb2 b
    · rw [List.map_append]; exact hz'
  · obtain ⟨t, b, rfl, hl, hb⟩ := hy.ex
    refine q1 t b hl (Nat.le_trans hb (Nat.le_trans (pB_le _ fun a ha => ?_) ?_))
    · obtain ⟨c, _, rfl⟩ := List.mem_map.mp ha
      exact hb2 c
    · rw [List.length_map, stp_len]
      exact Nat.le_trans (Nat.pow_le_pow_right (by decide) (show w.length + 1 ≤ 5 by omega)) (by decide)
theorem sm_pos (l : List St2) : 0 < pB (l.map (sm M)) := pB_pos _ fun x hx => by
  obtain ⟨y, _, rfl⟩ := List.mem_map.mp hx
  exact Nat.succ_pos _
theorem likelier_ok {v : Txt} {Q : Txt → Prop} (h : GM M z) (hn : n ≤ 3) (hw : w.length ≤ 4) (hv : v.length ≤ 4) (hM : M.length ≤ 35)
    (q : Q (if decide (((pA ((stp n w).map (sm M)) : Nat) : Int) * ((pB ((stp n v).map (sm M)) : Nat) : Int) < ((pA ((stp n v).map (sm M)) : Nat) : Int) * ((pB ((stp n w).map (sm M)) : Nat) : Int)) = true then v else w)) : Counts_likelier_W (CV n z, w, v, ()) Q E := by
  refine Cl.here (smch_ok h hn hw hM fun t b h1 hb => ?_)
  refine Cl.here (smch_ok h hn hv hM fun t' b' h2 hb' => ?_)
  refine ⟨small (show b ≤ 1000000000000 by omega) _, small (show b' ≤ 1000000000000 by omega) _, fun _ => rfl, fun _ => rfl, ?_⟩
  have e : decide ((t : Int) * (b' : Int) < (t' : Int) * (b : Int)) = decide (((pA ((stp n w).map (sm M)) : Nat) : Int) * ((pB ((stp n v).map (sm M)) : Nat) : Int) < ((pA ((stp n v).map (sm M)) : Nat) : Int) * ((pB ((stp n w).map (sm M)) : Nat) : Int)) := by
    rw [decide_eq_decide]
    exact_mod_cast h1.lt h2 (sm_pos _) (sm_pos _)
  show Q (if decide ((t : Int) * (b' : Int) < (t' : Int) * (b : Int)) = true then v else w)
  rw [e]
  exact q
end
section
variable {α : Type} {bt : α → α → Prop}
structure Bt (bt : α → α → Prop) (ok : α → Prop) : Prop where
  asy : ∀ a b, bt a b → ¬ bt b a
  tr : ∀ a b c, ok a → ok b → ok c → bt a b → ¬ bt c b → bt a c
structure Fst (bt : α → α → Prop) (l : List α) (b : α) : Prop where
  ex : ∃ l1 l2, l = l1 ++ b :: l2 ∧ (∀ x ∈ l1, bt b x)
  no : ∀ x ∈ l, ¬ bt x b
theorem Bt.irr {ok : α → Prop} (B : Bt bt ok) (a : α) : ¬ bt a a := fun h => B.asy a a h h
theorem Fst.mem {l : List α} {b : α} (h : Fst bt l b) : b ∈ l := by
  obtain ⟨l1, l2, e, _⟩ := h.ex
  rw [e]; simp
theorem Fst.one {ok : α → Prop} (B : Bt bt ok) (x : α) : Fst bt [x] x := ⟨⟨[], [], rfl, fun y h => by cases h⟩, fun y h => by rw [List.mem_singleton.mp h]; exact B.irr x⟩
theorem Fst.take {ok : α → Prop} (B : Bt bt ok) {l : List α} {b x : α} (h : Fst bt l b) (hl : ∀ y ∈ l, ok y) (hx : ok x) (g : bt x b) : Fst bt (l ++ [x]) x := by
  have hall : ∀ y ∈ l, bt x y := fun y hy => B.tr x b y hx (hl b h.mem) (hl y hy) g (h.no y hy)
  refine ⟨⟨l, [], rfl, hall⟩, fun y hy => ?_⟩
  rcases List.mem_append.mp hy with hy | hy
  · exact B.asy _ _ (hall y hy)
  · rw [List.mem_singleton.mp hy]; exact B.irr x
theorem Fst.keep {l : List α} {b x : α} (h : Fst bt l b) (g : ¬ bt x b) : Fst bt (l ++ [x]) b := by
  obtain ⟨l1, l2, e, h1⟩ := h.ex
  refine ⟨⟨l1, l2 ++ [x], by rw [e]; simp, h1⟩, fun y hy => ?_⟩
  rcases List.mem_append.mp hy with hy | hy
  · exact h.no y hy
  · rw [List.mem_singleton.mp hy]; exact g
theorem Fst.head {l : List α} {b : α} (h : Fst bt l b) (p : α → Bool) (hp : ∀ y ∈ l, p y = true ↔ ∀ x ∈ l, ¬ bt x y) : ∃ r, l.filter p = b :: r := by
  obtain ⟨l1, l2, e, h1⟩ := h.ex
  have hb := h.mem
  refine ⟨l2.filter p, ?_⟩
  have e1 : l1.filter p = [] := by
    rw [List.filter_eq_nil_iff]
    intro y hy g
    exact (hp y (by rw [e]; exact List.mem_append_left _ hy)).mp g b hb (h1 y hy)
  have e2 : p b = true := (hp b hb).mpr h.no
  conv => lhs; rw [e]
  rw [List.filter_append, e1, List.filter_cons, if_pos e2]
  rfl
end
abbrev ltP (p q : Int × Int) : Prop := p.1 * q.2 < q.1 * p.2
theorem ltP_tr {a b c : Int × Int} (ha : 0 < a.2) (hb : 0 < b.2) (hc : 0 < c.2) (h1 : ltP a b) (h2 : ¬ ltP c b) : ltP a c := by
  unfold ltP at *
  have h2 : b.1 * c.2 ≤ c.1 * b.2 := Int.not_lt.mp h2
  have e1 : (a.1 * b.2) * c.2 < (b.1 * a.2) * c.2 := Int.mul_lt_mul_of_pos_right h1 hc
  have e2 : (b.1 * c.2) * a.2 ≤ (c.1 * b.2) * a.2 := Int.mul_le_mul_of_nonneg_right h2 (Int.le_of_lt ha)
  refine Int.lt_of_mul_lt_mul_right (a := b.2) ?_ (Int.le_of_lt hb)
  have e3 : a.1 * c.2 * b.2 = (a.1 * b.2) * c.2 := by rw [Int.mul_right_comm]
  have e4 : c.1 * a.2 * b.2 = (c.1 * b.2) * a.2 := by rw [Int.mul_right_comm]
  have e5 : (b.1 * a.2) * c.2 = (b.1 * c.2) * a.2 := by rw [Int.mul_right_comm]
  omega
theorem ltP_bt {β : Type} : Bt (fun (a b : β × (Int × Int)) => ltP a.2 b.2) fun a => 0 < a.2.2 := ⟨fun a b h1 h2 => by unfold ltP at *; omega, fun a b c ha hb hc h1 h2 => ltP_tr ha hb hc h1 h2⟩
theorem enum_rng {α : Type} [Inhabited α] (xs : List α) : enumD xs = (rng xs.length).map fun k => (k, ixD xs k) := by
  have := enumD_map xs Prod.mk
  rwa [show ((enumD xs).map fun p => (p.1, p.2)) = enumD xs from List.map_id _] at this
theorem enum_at {α : Type} [Inhabited α] {xs : List α} {p : Int × α} (h : p ∈ enumD xs) : inR xs.length p.1 ∧ ixD xs p.1 = p.2 := by
  rw [enum_rng] at h
  obtain ⟨k, hk, rfl⟩ := List.mem_map.mp h
  have := rng_mem.mp hk
  exact ⟨⟨by omega, this.2⟩, rfl⟩
abbrev worst (S : List (Int × Int)) : List Int := ((rng S.length).filter fun (x9 : Int) => (decide (((S.filter (fun (x10 : (Int × Int)) => (decide ((x10.1 * (ixD S x9).2) < ((ixD S x9).1 * x10.2))))).map (fun (x10 : (Int × Int)) => x10)) = ([] : List (Int × Int))))).map fun (x9 : Int) => x9
theorem worst_head {S : List (Int × Int)} {b : Int × (Int × Int)} (h : Fst (fun (a b : Int × (Int × Int)) => ltP a.2 b.2) (enumD S) b) : ∃ r, worst S = b.1 :: r := by
  obtain ⟨r, hr⟩ := h.head (fun x => decide (((S.filter (fun (x10 : (Int × Int)) => (decide ((x10.1 * x.2.2) < (x.2.1 * x10.2))))).map (fun (x10 : (Int × Int)) => x10)) = ([] : List (Int × Int)))) fun y hy => by
    rw [decide_eq_true_eq, List.map_id', List.filter_eq_nil_iff]
    constructor
    · intro g x hx
      obtain ⟨k, hk, e1, e2⟩ := enumD_mem hx
      have := g x.2 (by rw [e2]; exact List.getElem_mem hk)
      rw [decide_eq_true_eq] at this
      exact this
    · intro g x hx
      rw [decide_eq_true_eq]
      obtain ⟨k, hk, e⟩ := List.getElem_of_mem hx
      have hm : ((k : Int), x) ∈ enumD S := by
        unfold enumD
        rw [List.mem_mapIdx]
        exact ⟨k, hk, by rw [e]⟩
      exact g _ hm
  refine ⟨r.map (·.1), ?_⟩
  have := congrArg (List.map (·.1)) hr
  rw [enum_rng, List.filter_map, List.map_map] at this
  unfold worst
  exact this
section
variable {n : Nat} {M : List St2} {z : Rws × Whl} {w : Txt} {E : Ex → Prop}
theorem strangest_ok {Q : Int → Prop} (h : GM M z) (hn : n ≤ 3) (hw : w.length ≤ 4) (hM : M.length ≤ 35) (q : ∀ b r, worst ((stp n w).map fun x => cI (sm M x)) = b :: r → Q b) : Counts_strangest_W (CV n z, w, ()) Q E := by
  refine Cl.here (steps_ok rfl hn (show w.length ≤ 100 by omega) ?_)
  have sl5 : (stp n w).length ≤ 5 := by rw [stp_len]; omega
  refine ⟨sl (show (stp n w).length ≤ 1000000 by omega), fun x => cI (sm M x), fun x _ => Cl.here (smoothM h rfl), ?_⟩
  show forW (enumD ((stp n w).map fun x => cI (sm M x))) (0 : Int) _ _
  generalize hS : ((stp n w).map fun x => cI (sm M x)) = S at q
  have hSp : ∀ x ∈ S, (0 < x.2 ∧ x.2 ≤ 1000) ∧ 0 ≤ x.1 ∧ x.1 ≤ 1000 := fun x hx => by
    rw [← hS] at hx
    obtain ⟨y, _, rfl⟩ := List.mem_map.mp hx
    have h1 := cnt_le M y
    have h2 := cSn_le M y.1
    show (0 < ((cSn M y.1 + 27 : Nat) : Int) ∧ ((cSn M y.1 + 27 : Nat) : Int) ≤ 1000) ∧ 0 ≤ ((cnt M y + 1 : Nat) : Int) ∧ ((cnt M y + 1 : Nat) : Int) ≤ 1000
    omega
  have hEp : ∀ x ∈ enumD S, (0 < x.2.2 ∧ x.2.2 ≤ 1000) ∧ 0 ≤ x.2.1 ∧ x.2.1 ≤ 1000 := fun x hx => by
    obtain ⟨k, hk, e1, e2⟩ := enumD_mem hx
    rw [e2]; exact hSp _ (List.getElem_mem hk)
  have hne : enumD S ≠ [] := fun e => by
    have := congrArg List.length e
    rw [enumD_len, ← hS, List.length_map, stp_len] at this
    cases this
  refine forL (fun l b => (l = [] ∧ b = 0) ∨ ∃ s, Fst (fun (a b : Int × (Int × Int)) => ltP a.2 b.2) l (b, s)) (.inl ⟨rfl, rfl⟩) (fun l x r b he hP nx hnx => ?_) fun b hP => ?_
  · have hx : x ∈ enumD S := by rw [he]; simp
    have hmem : ∀ y ∈ l, y ∈ enumD S := fun y hy => by rw [he]; exact List.mem_append_left _ hy
    obtain ⟨s, hs, hF⟩ : ∃ s, (b, s) ∈ enumD S ∧ ((l = [] ∧ (b, s) = x) ∨ Fst (fun (a b : Int × (Int × Int)) => ltP a.2 b.2) l (b, s)) := by
      rcases hP with ⟨rfl, rfl⟩ | ⟨s, hF⟩
      · have e0 : x.1 = 0 := by
          have e := enum_rng S
          rw [he, List.nil_append] at e
          cases hS2 : S with
          | nil => rw [hS2] at e; cases e
          | cons a t =>
            rw [hS2, show rng (a :: t).length = (List.range (t.length + 1)).map fun i : Nat => (i : Int) from rfl, List.range_succ_eq_map] at e
            injection e with e1 e2
            rw [e1]; rfl
        refine ⟨x.2, ?_, .inl ⟨rfl, ?_⟩⟩
        · rw [show ((0 : Int), x.2) = x by rw [← e0]]; exact hx
        · rw [← e0]
      · exact ⟨s, hmem _ hF.mem, .inr hF⟩
    obtain ⟨i1, i2⟩ := enum_at hs
    have i2 : ixD S b = s := i2
    obtain ⟨⟨p1, p2⟩, p3, p4⟩ := hEp _ hs
    obtain ⟨⟨u1, u2⟩, u3, u4⟩ := hEp _ hx
    have p1 : 0 < s.2 := p1
    have p2 : s.2 ≤ 1000 := p2
    show inR S.length b ∧ CMul x.2.1 (ixD S b).2 ∧ inR S.length b ∧ CMul (ixD S b).1 x.2.2 ∧ ifJ (decide (x.2.1 * (ixD S b).2 < (ixD S b).1 * x.2.2)) _ _ _
    rw [i2]
    refine ⟨i1, .inr ⟨by omega, by omega⟩, i1, .inr ⟨by omega, by omega⟩, ifJ.mk (fun g => ?_) fun g => ?_⟩
    · have g : ltP x.2 s := of_decide_eq_true g
      refine hnx _ (.inr ⟨x.2, ?_⟩)
      rcases hF with ⟨rfl, e⟩ | hF
      · exact Fst.one ltP_bt x
      · exact hF.take ltP_bt (fun y hy => (hEp y (hmem y hy)).1.1) u1 g
    · have g : ¬ ltP x.2 s := of_decide_eq_false g
      refine hnx _ (.inr ⟨s, ?_⟩)
      rcases hF with ⟨rfl, e⟩ | hF
      · rw [← e]; exact Fst.one ltP_bt _
      · exact hF.keep g
  · rcases hP with ⟨e, _⟩ | ⟨s, hF⟩
    · exact absurd e hne
    · obtain ⟨r, hr⟩ := worst_head hF
      exact q b r hr
theorem unseen_ok {Q : Tup Int → Prop} (h : GM M z) (hn : n ≤ 3) (hw : w.length ≤ 4) (q : Q ⟨((rng ((stp n w).map fun x => cI (pr M x)).length).filter fun (x14 : Int) => decide ((ixD ((stp n w).map fun x => cI (pr M x)) x14).1 = (0 : Int))).map fun (x14 : Int) => x14⟩) : Counts_unseen_W (CV n z, w, ()) Q E := by
  refine Cl.here (steps_ok rfl hn (show w.length ≤ 100 by omega) ?_)
  have sl5 : (stp n w).length ≤ 5 := by rw [stp_len]; omega
  refine ⟨sl (by rw [enumD_len]; show (stp n w).length ≤ _; omega), fun p => decide ((cI (pr M p.2)).1 = 0), fun p => p.1, fun p _ => Cl.here (shareM (x := p.2) h rfl), fun _ _ _ => rfl, ?_⟩
  have e : ((enumD (stp n w)).filter fun p => decide ((cI (pr M p.2)).1 = 0)).map (fun p => p.1) = ((rng ((stp n w).map fun x => cI (pr M x)).length).filter fun (x14 : Int) => decide ((ixD ((stp n w).map fun x => cI (pr M x)) x14).1 = (0 : Int))).map fun (x14 : Int) => x14 := by
    rw [enum_rng, List.filter_map, List.map_map, List.length_map]
    have : ∀ k ∈ rng (stp n w).length, ((fun p : Int × St2 => decide ((cI (pr M p.2)).1 = 0)) ∘ fun k => (k, ixD (stp n w) k)) k = decide ((ixD ((stp n w).map fun x => cI (pr M x)) k).1 = (0 : Int)) := fun k hk => by
      obtain ⟨h0, h1⟩ := rng_mem.mp hk
      obtain ⟨j, rfl⟩ : ∃ j : Nat, k = (j : Int) := ⟨k.toNat, by omega⟩
      have hj : j < (stp n w).length := by omega
      show decide ((cI (pr M (ixD (stp n w) (j : Int)))).1 = 0) = _
      rw [ixD_nat hj, ixD_nat (by rw [List.length_map]; exact hj), List.getElem_map]
    rw [List.filter_congr this]
    rfl
  show Q ⟨((enumD (stp n w)).filter fun p => decide ((cI (pr M p.2)).1 = 0)).map (fun p => p.1)⟩
  rw [e]
  exact q
end
end K08
set_option maxHeartbeats 400000
namespace K08
open PySem L2 Sp
open PySem.W (DatumOrd listLt)
theorem srtK_map {α κ : Type} [DecidableEq κ] [DatumOrd κ] (key : α → κ) (xs : List α) : (srtK key xs).map key = srt (xs.map key) := List.map_mergeSort fun _ _ _ _ => rfl
theorem srtK_mem {α κ : Type} [DecidableEq κ] [DatumOrd κ] {key : α → κ} {xs : List α} {x : α} : x ∈ srtK key xs ↔ x ∈ xs := (List.mergeSort_perm xs _).mem_iff
theorem srtK_inv {α κ : Type} [DecidableEq κ] [DatumOrd κ] {key : α → κ} {inv : κ → α} {xs : List α} (h : ∀ x ∈ xs, inv (key x) = x) : srtK key xs = (srt (xs.map key)).map inv := by
  rw [← srtK_map, List.map_map]
  conv => lhs; rw [← List.map_id (srtK key xs)]
  exact List.map_congr_left fun x hx => (h x (srtK_mem.mp hx)).symm
abbrev sig (M : List St2) (a : Txt) : List Txt := (M.filter (fun (x : St2) => decide (x.1 = a))).map fun x => x.2
abbrev due (S : List Txt) : List (Int × Txt) := srt ((srt (uq S)).map fun (x : Txt) => (((0 : Int) - ((cnt S x : Nat) : Int)), x))
abbrev nl (M : List St2) (a : Txt) : List (Txt × Int) := (due (sig M a)).map fun (x : Int × Txt) => (x.2, ((0 : Int) - x.1))
theorem sig_mem {M : List St2} {a s : Txt} : s ∈ sig M a ↔ (a, s) ∈ M := by
  unfold sig
  rw [List.mem_map]
  constructor
  · rintro ⟨x, hx, rfl⟩
    obtain ⟨h1, h2⟩ := List.mem_filter.mp hx
    rw [← of_decide_eq_true h2]; exact h1
  · intro h
    exact ⟨(a, s), List.mem_filter.mpr ⟨h, decide_eq_true rfl⟩, rfl⟩
theorem cnt_posG {α : Type} [DecidableEq α] {M : List α} {x : α} (h : x ∈ M) : 0 < cnt M x := by
  unfold cnt
  rw [List.countP_pos_iff]
  exact ⟨x, h, decide_eq_true rfl⟩
theorem sig_cnt (M : List St2) (a s : Txt) : cnt (sig M a) s = cnt M (a, s) := by
  unfold sig cnt
  rw [List.countP_map, List.countP_filter]
  refine List.countP_congr fun x _ => ?_
  simp only [Function.comp, Bool.and_eq_true, decide_eq_true_eq]
  constructor
  · rintro ⟨h1, h2⟩; rw [← h1, ← h2]
  · intro h; rw [h]; exact ⟨rfl, rfl⟩
section
variable {n : Nat} {M : List St2} {z : Rws × Whl} {w : Txt} {E : Ex → Prop}
theorem row_perm (h : GM M z) (a : Txt) : (row z.1 a).Perm ((srt (uq (sig M a))).map fun s => (s, ((cnt (sig M a) s : Nat) : Int))) := by
  obtain ⟨r1, r2, r3⟩ := h.rowP a
  have hv : ∀ q ∈ row z.1 a, q.2 = cM M a q.1 := fun q hq => by
    rw [← h.vl, val_of_mem r1 (show (q.1, q.2) ∈ row z.1 a from hq)]; rfl
  have e : row z.1 a = ((row z.1 a).map (·.1)).map fun s => (s, ((cnt (sig M a) s : Nat) : Int)) := by
    rw [List.map_map]
    conv => lhs; rw [← List.map_id (row z.1 a)]
    refine List.map_congr_left fun q hq => ?_
    show q = (q.1, ((cnt (sig M a) q.1 : Nat) : Int))
    rw [sig_cnt]
    exact Prod.ext rfl (hv q hq)
  have p : ((row z.1 a).map (·.1)).Perm (srt (uq (sig M a))) := nodup_perm r1 (srt_nodup (uq_nodup _)) fun s => by
    rw [srt_mem, uq_mem, sig_mem, ← cnt_pos2]
    constructor
    · intro hs
      obtain ⟨q, hq, rfl⟩ := List.mem_map.mp hs
      have h1 := r3 q hq
      have h2 := hv q hq
      have h3 : 0 < ((cnt M (a, q.1) : Nat) : Int) := by rw [h2] at h1; exact h1
      omega
    · intro hs
      have h3 : (dval (row z.1 a) s).getD 0 = ((cnt M (a, s) : Nat) : Int) := h.vl a s
      cases e : dval (row z.1 a) s with
      | none => rw [e] at h3; have h3 : (0 : Int) = _ := h3; omega
      | some v => exact List.mem_map.mpr ⟨_, dval_mem e, rfl⟩
  rw [e]
  exact p.map _
theorem next_ok {Q : Tup (Txt × Int) → Prop} (h : GM M z) (hn : n ≤ 3) (hw : w.length ≤ 100) (q : Q ⟨nl M (rnw n w)⟩) : Counts_next_letters_W (CV n z, w, ()) Q E := by
  refine ⟨rep_ok hn, (cat_ok hn hw).1, ?_⟩
  show Counts_next_letters_w3 (CV n z) (repS (tx ".") (sz n - (1 : Int)) ++ w) Q
  rw [repS_dot]
  have l : (dots n ++ w).length = n + w.length := by rw [List.length_append, dots_len]
  refine ⟨sl (by rw [l]; omega), sl (by rw [l]; omega), ?_⟩
  have e : cutD (dots n ++ w) (some (((((dots n ++ w).length : Nat) : Int) - sz n) + (1 : Int))) none = rnw n w := by
    rw [l, show (((n + w.length : Nat) : Int) - sz n) + (1 : Int) = ((w.length : Nat) : Int) by unfold sz; omega, cut_from]
    rfl
  show Counts_next_letters_w2 (CV n z) (cutD (dots n ++ w) (some (((((dots n ++ w).length : Nat) : Int) - sz n) + (1 : Int))) none) Q
  rw [e]
  show Counts_next_letters_w1 ((dval (frzH z.1) (rnw n w)).getD (Dct.mk ([] : List (Txt × Int)))) Q
  rw [dval_frz]
  refine ⟨fun _ _ => rfl, ?_⟩
  have e2 : srtK (fun (x6 : (Txt × Int)) => (((0 : Int) - x6.2), x6.1)) (row z.1 (rnw n w)) = nl M (rnw n w) := by
    rw [srtK_inv (inv := fun x => (x.2, (0 : Int) - x.1)) fun x _ => (by show (x.1, (0 : Int) - (0 - x.2)) = x; rw [show (0 : Int) - (0 - x.2) = x.2 by omega])]
    unfold nl due
    rw [srt_congr ((row_perm h (rnw n w)).map _), List.map_map]
    rfl
  show Q ⟨srtK (fun (x6 : (Txt × Int)) => (((0 : Int) - x6.2), x6.1)) (row z.1 (rnw n w))⟩
  rw [e2]
  exact q
theorem nl_mem {a : Txt} {x : Txt × Int} : x ∈ nl M a ↔ x.1 ∈ sig M a ∧ x.2 = ((cnt (sig M a) x.1 : Nat) : Int) := by
  unfold nl due
  rw [List.mem_map]
  constructor
  · rintro ⟨y, hy, rfl⟩
    obtain ⟨s, hs, rfl⟩ := List.mem_map.mp (srt_mem.mp hy)
    exact ⟨(uq_mem _ _).mp (srt_mem.mp hs), by show (0 : Int) - (0 - ((cnt (sig M a) s : Nat) : Int)) = ((cnt (sig M a) s : Nat) : Int); omega⟩
  · rintro ⟨h1, h2⟩
    refine ⟨(0 - ((cnt (sig M a) x.1 : Nat) : Int), x.1), srt_mem.mpr (List.mem_map.mpr ⟨x.1, srt_mem.mpr ((uq_mem _ _).mpr h1), rfl⟩), ?_⟩
    show (x.1, (0 : Int) - (0 - _)) = x
    rw [show (0 : Int) - (0 - ((cnt (sig M a) x.1 : Nat) : Int)) = x.2 by omega]
theorem nl_len (a : Txt) : (nl M a).length ≤ M.length := by
  unfold nl due
  rw [List.length_map, srt_len, List.length_map, srt_len]
  refine Nat.le_trans (uq_len _) ?_
  unfold sig
  rw [List.length_map]
  exact List.length_filter_le _ _
abbrev bestL (S : List Txt) : List (Int × Txt) := (S.map (fun (x : Txt) => (((0 : Int) - ((cnt S x : Nat) : Int)), x))) ++ [((1 : Int), (tx "?"))]
abbrev bestS (S : List Txt) : Txt := (minL (bestL S)).2
theorem due_head {S : List Txt} (h : S ≠ []) : ∃ r, due S = minL (bestL S) :: r := by
  have hm : minL (bestL S) ∈ bestL S := minL_mem (by simp [bestL])
  cases hd : due S with
  | nil =>
    have := congrArg List.length hd
    unfold due at this
    rw [srt_len, List.length_map, srt_len] at this
    exact absurd ((uq_mem S _).mpr (List.head_mem h)) (by rw [List.eq_nil_of_length_eq_zero this]; exact List.not_mem_nil)
  | cons d r =>
    refine ⟨r, ?_⟩
    have hdm : ∀ y : Int × Txt, y ∈ due S ↔ y ∈ S.map fun (x : Txt) => (((0 : Int) - ((cnt S x : Nat) : Int)), x) := fun y => by
      unfold due
      rw [srt_mem, List.mem_map, List.mem_map]
      constructor
      · rintro ⟨a, h1, h2⟩; exact ⟨a, (uq_mem _ _).mp (srt_mem.mp h1), h2⟩
      · rintro ⟨a, h1, h2⟩; exact ⟨a, srt_mem.mpr ((uq_mem _ _).mpr h1), h2⟩
    have hd1 : d ∈ bestL S := List.mem_append_left _ ((hdm d).mp (by rw [hd]; exact List.mem_cons_self))
    have h1 : DatumOrd.lt d (minL (bestL S)) = false := minL_le hd1
    have hne : minL (bestL S) ≠ ((1 : Int), (tx "?")) := fun e => by
      have hle := minL_le (xs := bestL S) (y := ((0 : Int) - ((cnt S (S.head h) : Nat) : Int), S.head h)) (List.mem_append_left _ (List.mem_map.mpr ⟨_, List.head_mem h, rfl⟩))
      rw [e] at hle
      have hc : 0 < cnt S (S.head h) := cnt_posG (List.head_mem h)
      have : DatumOrd.lt ((0 : Int) - ((cnt S (S.head h) : Nat) : Int), S.head h) ((1 : Int), tx "?") = true := by
        show (if (0 : Int) - ((cnt S (S.head h) : Nat) : Int) = 1 then _ else decide ((0 : Int) - ((cnt S (S.head h) : Nat) : Int) < 1)) = true
        rw [if_neg (by omega), decide_eq_true (by omega)]
      rw [this] at hle
      cases hle
    have hm2 : minL (bestL S) ∈ due S := by
      rcases List.mem_append.mp hm with hm | hm
      · exact (hdm _).mpr hm
      · exact absurd (List.mem_singleton.mp hm) hne
    have h2 : DatumOrd.lt (minL (bestL S)) d = false := by
      rw [hd] at hm2
      rcases List.mem_cons.mp hm2 with e | hm2
      · rw [e]; exact Lin.irr _
      · have hs := srt_sorted ((srt (uq S)).map fun (x : Txt) => (((0 : Int) - ((cnt S x : Nat) : Int)), x))
        have hd' : srt ((srt (uq S)).map fun (x : Txt) => (((0 : Int) - ((cnt S x : Nat) : Int)), x)) = d :: r := hd
        rw [hd'] at hs
        exact (List.pairwise_cons.mp hs).1 _ hm2
    rw [Lin.tot _ _ h1 h2]
theorem nl_head {a : Txt} (h : sig M a ≠ []) : ∃ c r, nl M a = (bestS (sig M a), c) :: r ∧ bestS (sig M a) ∈ sig M a := by
  obtain ⟨r, hr⟩ := due_head h
  refine ⟨(0 : Int) - (minL (bestL (sig M a))).1, r.map fun (x : Int × Txt) => (x.2, ((0 : Int) - x.1)), ?_, ?_⟩
  · unfold nl
    rw [hr]
    rfl
  · have : (bestS (sig M a), (0 : Int) - (minL (bestL (sig M a))).1) ∈ nl M a := by
      unfold nl
      rw [hr]
      exact List.mem_cons_self
    exact (nl_mem.mp this).1
theorem nl_nil {a : Txt} (h : sig M a = []) : nl M a = [] := by
  refine List.eq_nil_of_length_eq_zero ?_
  unfold nl due
  rw [List.length_map, srt_len, List.length_map, srt_len, h]
  rfl
end
end K08
set_option maxHeartbeats 400000
namespace K08
open PySem L2 Sp
open PySem.W (DatumOrd listLt)
def Sgl (M : List St2) : Prop := ∀ x ∈ M, ∃ c, x.2 = [c] ∧ (c = 46 ∨ c ∈ (tx "abc" : Txt))
theorem stp_mem {n : Nat} {w : Txt} {x : St2} : x ∈ stp n w ↔ ∃ k, k ≤ w.length ∧ x = (rnw n (w.take k), sgn w k) := by
  rw [stp_range, List.mem_map]
  constructor
  · rintro ⟨k, hk, rfl⟩; exact ⟨k, by have := List.mem_range.mp hk; omega, rfl⟩
  · rintro ⟨k, hk, rfl⟩; exact ⟨k, List.mem_range.mpr (by omega), rfl⟩
theorem ST_sgl {n : Nat} {ws : List Txt} (hw : ∀ w ∈ ws, Wb w) : Sgl (ST n ws) := fun x hx => by
  obtain ⟨w, hm, hx⟩ := List.mem_flatMap.mp hx
  obtain ⟨k, hk, rfl⟩ := stp_mem.mp hx
  show ∃ c, sgn w k = [c] ∧ _
  unfold sgn
  by_cases c : k < w.length
  · rw [if_pos c]; exact ⟨_, rfl, .inr ((hw w hm).ls _ (gt_mem c))⟩
  · rw [if_neg c]; exact ⟨_, rfl, .inl rfl⟩
theorem run_snoc (n : Nat) (v : Txt) (c : Nat) : rnw n (v ++ [c]) = (rnw n v ++ [c]).drop 1 := by
  unfold rnw
  rw [← List.append_assoc, List.length_append, show v.length + [c].length = v.length + 1 from rfl, ← List.drop_drop]
  rw [List.drop_append_of_le_length (i := v.length) (by rw [List.length_append]; omega)]
section
variable {n : Nat} {ws : List Txt}
theorem sig_start (h : ws ≠ []) : sig (ST n ws) (rnw n []) ≠ [] := fun e => by
  obtain ⟨w, r, rfl⟩ := List.exists_cons_of_ne_nil h
  have : sgn w 0 ∈ sig (ST n (w :: r)) (rnw n []) := sig_mem.mpr (List.mem_flatMap.mpr ⟨w, List.mem_cons_self, stp_mem.mpr ⟨0, Nat.zero_le _, rfl⟩⟩)
  rw [e] at this
  cases this
theorem sig_next {v : Txt} {c : Nat} (h : [c] ∈ sig (ST n ws) (rnw n v)) (hc : c ≠ 46) : sig (ST n ws) (rnw n (v ++ [c])) ≠ [] := fun e => by
  obtain ⟨w, hw, hx⟩ := List.mem_flatMap.mp (sig_mem.mp h)
  obtain ⟨k, hk, hx⟩ := stp_mem.mp hx
  injection hx with h1 h2
  unfold sgn at h2
  by_cases d : k < w.length
  · rw [if_pos d] at h2
    injection h2 with h2 _
    have e2 : rnw n (v ++ [c]) = rnw n (w.take (k + 1)) := by rw [run_snoc, h1, takeg d, run_snoc, h2]
    have : sgn w (k + 1) ∈ sig (ST n ws) (rnw n (v ++ [c])) := by
      rw [e2]
      exact sig_mem.mpr (List.mem_flatMap.mpr ⟨w, hw, stp_mem.mpr ⟨k + 1, d, rfl⟩⟩)
    rw [e] at this
    cases this
  · rw [if_neg d] at h2
    injection h2 with h2 _
    exact hc h2
end
abbrev bst (n : Nat) (M : List St2) (v : Txt) : Txt := bestS (sig M (rnw n v))
def made (n : Nat) (M : List St2) : Nat → Txt
  | 0 => []
  | k + 1 => made n M k ++ bst n M (made n M k)
def tol (n : Nat) (M : List St2) : Nat → Txt
  | 0 => tx "no way"
  | k + 1 => if tol n M k = tx "no way" ∧ bst n M (made n M k) = tx "." then made n M k else tol n M k
section
variable {n : Nat} {M : List St2}
theorem bst_sgl (hS : Sgl M) (v : Txt) : ∃ c, bst n M v = [c] ∧ c ≠ 110 := by
  unfold bst
  by_cases h : sig M (rnw n v) = []
  · rw [h]; exact ⟨63, rfl, by decide⟩
  · obtain ⟨_, _, _, hm⟩ := nl_head h
    obtain ⟨c, e, hc⟩ := hS _ (sig_mem.mp hm)
    refine ⟨c, e, fun g => ?_⟩
    subst g
    rcases hc with hc | hc
    · cases hc
    · revert hc; decide
theorem made_len (hS : Sgl M) : ∀ k, (made n M k).length = k ∧ 110 ∉ made n M k
  | 0 => ⟨rfl, List.not_mem_nil⟩
  | k + 1 => by
    obtain ⟨h1, h2⟩ := made_len hS k
    obtain ⟨c, e, hc⟩ := bst_sgl (n := n) hS (made n M k)
    unfold made
    rw [e]
    refine ⟨by rw [List.length_append, h1]; rfl, fun g => ?_⟩
    rcases List.mem_append.mp g with g | g
    · exact h2 g
    · exact hc (List.mem_singleton.mp g).symm
theorem tol_none : ∀ k, (∀ i, i < k → bst n M (made n M i) ≠ tx ".") → tol n M k = tx "no way"
  | 0, _ => rfl
  | k + 1, h => by
    unfold tol
    rw [if_neg fun g => h k (Nat.lt_succ_self k) g.2]
    exact tol_none k fun i hi => h i (Nat.lt_succ_of_lt hi)
theorem tol_some (hS : Sgl M) {j : Nat} (h : ∀ i, i < j → bst n M (made n M i) ≠ tx ".") (hj : bst n M (made n M j) = tx ".") : ∀ k, j < k → tol n M k = made n M j
  | 0, hk => by omega
  | k + 1, hk => by
    unfold tol
    by_cases e : j = k
    · subst e
      rw [if_pos ⟨tol_none j h, hj⟩]
    · have ih := tol_some hS h hj k (by omega)
      rw [ih]
      rw [if_neg fun g => (made_len (n := n) hS j).2 (by rw [g.1]; decide)]
theorem run_law (v : Txt) : (if (decide ((1 : Int) < sz n)) = true then (cutD ((repS (tx ".") (sz n)) ++ v) (some ((v.length : Int) + (1 : Int))) none) else (tx "")) = rnw n v := by
  have er : repS (tx ".") (sz n) = dots (n + 1) := by
    have := repS_dot (n + 1)
    rw [show sz (n + 1) - (1 : Int) = sz n by unfold sz; omega] at this
    exact this
  by_cases h : (1 : Int) < sz n
  · rw [if_pos (decide_eq_true h), er, show ((v.length : Int) + (1 : Int)) = ((v.length + 1 : Nat) : Int) by omega, cut_from]
    rw [show dots (n + 1) ++ v = 46 :: (dots n ++ v) from rfl, List.drop_succ_cons]
    rfl
  · rw [if_neg (by rw [decide_eq_true_eq]; exact h)]
    have : n = 0 := by unfold sz at h; omega
    subst this
    unfold rnw
    rw [show dots 0 ++ v = v from rfl, List.drop_length]
    rfl
theorem run_cond (hn : n ≤ 3) {v : Txt} (hv : v.length ≤ 100) : (decide ((1 : Int) < sz n)) = true → ((-(2 ^ 63) ≤ sz n ∧ List.length (tx ".") * (sz n).toNat ≤ 16777216 ∧ sz n ≤ 16777216) ∧ (List.length (repS (tx ".") (sz n)) + v.length ≤ sizeLine ∧ (v.length ≤ sizeLine ∧ (List.length ((repS (tx ".") (sz n)) ++ v) ≤ sizeLine ∧ (cutD ((repS (tx ".") (sz n)) ++ v) (some ((v.length : Int) + (1 : Int))) none) = (cutD ((repS (tx ".") (sz n)) ++ v) (some ((v.length : Int) + (1 : Int))) none))))) := fun _ => by
  have er : repS (tx ".") (sz n) = dots (n + 1) := by
    have := repS_dot (n + 1)
    rw [show sz (n + 1) - (1 : Int) = sz n by unfold sz; omega] at this
    exact this
  rw [er, List.length_append, dots_len, show List.length (tx ".") = 1 from rfl]
  refine ⟨⟨?_, ?_, ?_⟩, sl (by omega), sl (by omega), sl (by omega), rfl⟩ <;> (unfold sz; omega)
theorem loop_ok {a : Txt} {b : List Txt} {R : Txt × (List Txt) × Txt × Txt → Prop} (hn : n ≤ 3) (hM : M.length ≤ 1000) (hS : Sgl M) (q : ∀ z, z.2.2.2 = tol n M 7 → R z) :
    forW ((List.range ((7 : Int)).toNat).map fun i : Nat => (i : Int)) (a, b, tx "", tx "no way") (fun (x21 : Int) (z22 : Txt × (List Txt) × Txt × Txt) (nx24 : Txt × (List Txt) × Txt × Txt → Prop) => law_rest2_w5 (sz n) M nx24 z22.2.2.1 z22.2.2.2) R := by
  refine forR (fun k z => z.2.2.1 = made n M k ∧ z.2.2.2 = tol n M k) ⟨rfl, rfl⟩ (fun k z hk h nx hnx => ?_) fun z h => q z h.2
  obtain ⟨a, b, m, t⟩ := z
  obtain ⟨h1, h2⟩ := h
  have h1 : m = made n M k := h1
  have h2 : t = tol n M k := h2
  subst h1 h2
  have hl := (made_len (n := n) hS k).1
  have hk : k < 7 := hk
  refine ⟨run_cond hn (by show (made n M k).length ≤ 100; omega), fun _ => rfl, ?_⟩
  show law_rest2_w4 M nx (made n M k) (tol n M k) (if (decide ((1 : Int) < sz n)) = true then (cutD ((repS (tx ".") (sz n)) ++ made n M k) (some (((made n M k).length : Int) + (1 : Int))) none) else (tx ""))
  rw [run_law]
  refine ⟨sl (by omega), fun _ _ => rfl, fun _ _ _ => rfl, ?_⟩
  show law_rest2_w3 nx (made n M k) (tol n M k) (rnw n (made n M k)) (sig M (rnw n (made n M k)))
  have hs : (sig M (rnw n (made n M k))).length ≤ 1000 := by
    unfold sig
    rw [List.length_map]
    exact Nat.le_trans (List.length_filter_le _ _) hM
  refine ⟨sl (by omega), fun _ _ => rfl, sl ?_, by simp, ?_⟩
  · rw [List.length_map]
    show _ + 1 ≤ _
    omega
  show law_rest2_w2 nx (made n M k) (tol n M k) (rnw n (made n M k)) (sig M (rnw n (made n M k))) (bst n M (made n M k))
  obtain ⟨c, ec, _⟩ := bst_sgl (n := n) hS (made n M k)
  have hfit : (made n M k).length + (bst n M (made n M k)).length ≤ sizeLine := by rw [ec]; exact sl (by show (made n M k).length + 1 ≤ _; omega)
  refine ⟨fun _ => rfl, ifJ.mk (fun g => ⟨hfit, hnx _ ⟨rfl, ?_⟩⟩) fun g => ⟨hfit, hnx _ ⟨rfl, ?_⟩⟩⟩
  · rw [Bool.and_eq_true, decide_eq_true_eq, decide_eq_true_eq] at g
    show made n M k = tol n M (k + 1)
    conv => rhs; unfold tol
    rw [if_pos g]
  · show tol n M k = tol n M (k + 1)
    conv => rhs; unfold tol
    rw [if_neg fun h => ?_]
    rw [decide_eq_true h.1, decide_eq_true h.2] at g
    cases g
end
section
variable {n : Nat} {ws : List Txt} {z : Rws × Whl}
theorem likeliest_ok {Q : Txt → Prop} {E : Ex → Prop} (h : GM (ST n ws) z) (hn : n ≤ 3) (hw : ∀ w ∈ ws, Wb w) (qs : ws ≠ [] → tol n (ST n ws) 7 ≠ tx "no way" → Q (tol n (ST n ws) 7)) (qe : (ws ≠ [] → tol n (ST n ws) 7 = tx "no way") → E .NoWay) : Counts_likeliest_W (CV n z, (6 : Int), ()) Q E := by
  have hS := ST_sgl (n := n) hw
  refine ⟨show -(2 ^ 62) ≤ (6 : Int) + 1 ∧ (6 : Int) + 1 < 2 ^ 62 by decide, ?_⟩
  show forW ((List.range 7).map fun i : Nat => (i : Int)) (tx "") _ _
  refine forR (fun k v => v = made n (ST n ws) k ∧ (∀ i, i < k → bst n (ST n ws) (made n (ST n ws) i) ≠ tx ".") ∧ (ws ≠ [] → sig (ST n ws) (rnw n v) ≠ [])) ⟨rfl, fun i hi => absurd hi (Nat.not_lt_zero i), fun hne => sig_start hne⟩ (fun k v hk hP nx hnx => ?_) fun v hP => qe fun _ => tol_none 7 hP.2.1
  obtain ⟨rfl, hno, hsg⟩ := hP
  have hl := (made_len (n := n) hS k).1
  refine Cl.here (next_ok h hn (by omega) ?_)
  by_cases hne : ws = []
  · have e : nl (ST n ws) (rnw n (made n (ST n ws) k)) = [] := nl_nil (by subst hne; rfl)
    rw [e]
    exact ⟨fun _ => qe fun g => absurd hne g, fun g => absurd rfl (of_decide_eq_false g)⟩
  · obtain ⟨c, r, e, hm⟩ := nl_head (hsg hne)
    rw [e]
    refine ⟨fun g => (by have := of_decide_eq_true g; injection this with this; cases this), fun _ => ⟨ir (k := 0) rfl (Nat.succ_pos _), ?_⟩⟩
    show Counts_likeliest_w1 nx (made n (ST n ws) k) (bst n (ST n ws) (made n (ST n ws) k)) Q
    refine ⟨fun g => ?_, fun g => ?_⟩
    · have g := of_decide_eq_true g
      have et := tol_some hS hno g 7 hk
      rw [← et]
      exact qs hne (by rw [et]; exact fun e => (made_len (n := n) hS k).2 (by rw [e]; decide))
    · have g := of_decide_eq_false g
      obtain ⟨d, hd, hd2⟩ := hS _ (sig_mem.mp hm)
      have hd : bst n (ST n ws) (made n (ST n ws) k) = [d] := hd
      refine ⟨by rw [hd]; exact sl (by show (made n (ST n ws) k).length + 1 ≤ _; omega), hnx _ ⟨rfl, fun i hi => ?_, fun _ => ?_⟩⟩
      · rcases Nat.lt_succ_iff_lt_or_eq.mp hi with hi | rfl
        · exact hno i hi
        · exact g
      · rw [hd]
        refine sig_next (by rw [← hd]; exact hm) fun e => g (by rw [hd, e]; rfl)
end
end K08
set_option maxHeartbeats 400000
namespace K08
open PySem L2 Sp
open PySem.W (DatumOrd listLt)
abbrev ext3 (v : Txt) : List Txt := ((tx "abc").map fun c => [c]).map fun (x25 : Txt) => v ++ x25
def cube : Nat → List Txt
  | 0 => [[]]
  | k + 1 => ((cube k).map ext3).flatten
theorem cube_mem : ∀ {k : Nat} {w : Txt}, w ∈ cube k ↔ w.length = k ∧ ∀ c ∈ w, c ∈ (tx "abc" : Txt)
  | 0, w => by
    unfold cube
    rw [List.mem_singleton]
    constructor
    · rintro rfl; exact ⟨rfl, fun c h => by cases h⟩
    · rintro ⟨h, _⟩; exact List.eq_nil_of_length_eq_zero h
  | k + 1, w => by
    unfold cube
    rw [List.mem_flatten]
    constructor
    · rintro ⟨l, hl, hw⟩
      obtain ⟨v, hv, rfl⟩ := List.mem_map.mp hl
      obtain ⟨x, hx, rfl⟩ := List.mem_map.mp hw
      obtain ⟨c, hc, rfl⟩ := List.mem_map.mp hx
      obtain ⟨h1, h2⟩ := cube_mem.mp hv
      refine ⟨by rw [List.length_append, h1]; rfl, fun d hd => ?_⟩
      rcases List.mem_append.mp hd with hd | hd
      · exact h2 d hd
      · rw [List.mem_singleton.mp hd]; exact hc
    · rintro ⟨h1, h2⟩
      have hne : w ≠ [] := fun e => by rw [e] at h1; cases h1
      obtain ⟨v, c, rfl⟩ : ∃ v c, w = v ++ [c] := ⟨w.dropLast, w.getLast hne, (List.dropLast_concat_getLast hne).symm⟩
      rw [List.length_append] at h1
      refine ⟨ext3 v, List.mem_map.mpr ⟨v, cube_mem.mpr ⟨by have : v.length + 1 = k + 1 := h1; omega, fun d hd => h2 d (List.mem_append_left _ hd)⟩, rfl⟩, ?_⟩
      exact List.mem_map.mpr ⟨[c], List.mem_map.mpr ⟨c, h2 c (by simp), rfl⟩, rfl⟩
theorem cube_len : ∀ k, (cube k).length = 3 ^ k
  | 0 => rfl
  | k + 1 => by
    unfold cube
    rw [List.length_flatten, List.map_map]
    have : ((cube k).map (List.length ∘ ext3)) = (cube k).map fun _ => 3 := List.map_congr_left fun x _ => rfl
    rw [this, List.map_const', List.sum_replicate_nat, cube_len k, Nat.pow_succ]
theorem cube_srt {k : Nat} (h : k ≤ 3) : (cube k).Pairwise (fun a b => DatumOrd.lt b a = false) ∧ (cube k).Nodup := by
  rcases (show k = 0 ∨ k = 1 ∨ k = 2 ∨ k = 3 by omega) with rfl | rfl | rfl | rfl <;> decide +kernel
theorem pre_snoc (n : Nat) (v : Txt) (c : Nat) : pre n (v ++ [c]) = pre n v ++ [(rnw n v, [c])] := by
  unfold pre
  rw [List.length_append, show v.length + [c].length = v.length + 1 from rfl, List.range_succ, List.map_append]
  congr 1
  · refine List.map_congr_left fun k hk => ?_
    have hk := List.mem_range.mp hk
    rw [List.take_append_of_le_length (by omega)]
    congr 2
    simp [gt, List.getD_eq_getElem?_getD, List.getElem?_append_left hk]
  · show [(rnw n ((v ++ [c]).take v.length), [gt (v ++ [c]) v.length])] = _
    rw [List.take_left, show gt (v ++ [c]) v.length = c from gt_at]
abbrev pk (n : Nat) (M : List St2) (w : Txt) : Bool := decide (∀ x ∈ pre n w, x ∈ M)
theorem pk_snoc {n : Nat} {M : List St2} {v : Txt} {c : Nat} : pk n M (v ++ [c]) = true ↔ pk n M v = true ∧ [c] ∈ sig M (rnw n v) := by
  unfold pk
  rw [decide_eq_true_eq, decide_eq_true_eq, pre_snoc, sig_mem]
  constructor
  · intro h; exact ⟨fun x hx => h x (List.mem_append_left _ hx), h _ (by simp)⟩
  · rintro ⟨h1, h2⟩ x hx
    rcases List.mem_append.mp hx with hx | hx
    · exact h1 x hx
    · rw [List.mem_singleton.mp hx]; exact h2
theorem pk_stp {n : Nat} {M : List St2} {w : Txt} : (pk n M w && inL (tx ".") (sig M (rnw n w))) = decide (((stp n w).filter fun (x : St2) => niL x M).map (fun (x : St2) => x) = ([] : List St2)) := by
  rw [Bool.eq_iff_iff, Bool.and_eq_true, decide_eq_true_eq, decide_eq_true_eq, List.map_id', List.filter_eq_nil_iff]
  unfold inL niL stp
  simp only [decide_eq_true_eq, Classical.not_not]
  rw [sig_mem]
  constructor
  · rintro ⟨h1, h2⟩ x hx
    rcases List.mem_append.mp hx with hx | hx
    · exact h1 x hx
    · rw [List.mem_singleton.mp hx]; exact h2
  · intro h
    exact ⟨fun x hx => h x (List.mem_append_left _ hx), h _ (by simp [dot1])⟩
section
variable {n : Nat} {M : List St2} {z : Rws × Whl} {E : Ex → Prop}
theorem next_rows (hS : Sgl M) {k : Nat} (hk : k + 1 ≤ 3) {L : List (Txt × Txt)} (hL : L = ((cube k).filter (pk n M)).flatMap fun v => (nl M (rnw n v)).map fun x => (v, x.1)) :
    srt ((L.filter (fun (x17 : (Txt × Txt)) => (decide (x17.2 ≠ (tx "."))))).map (fun (x17 : (Txt × Txt)) => (x17.1 ++ x17.2))) = (cube (k + 1)).filter (pk n M) := by
  obtain ⟨c1, c2⟩ := cube_srt (k := k) (by omega)
  obtain ⟨d1, d2⟩ := cube_srt hk
  have hm : ∀ p : Txt × Txt, p ∈ L ↔ (p.1 ∈ cube k ∧ pk n M p.1 = true) ∧ p.2 ∈ sig M (rnw n p.1) := fun p => by
    rw [hL, List.mem_flatMap]
    constructor
    · rintro ⟨v, hv, hp⟩
      obtain ⟨x, hx, rfl⟩ := List.mem_map.mp hp
      exact ⟨List.mem_filter.mp hv, (nl_mem.mp hx).1⟩
    · rintro ⟨h1, h2⟩
      exact ⟨p.1, List.mem_filter.mpr h1, List.mem_map.mpr ⟨(p.2, ((cnt (sig M (rnw n p.1)) p.2 : Nat) : Int)), nl_mem.mpr ⟨h2, rfl⟩, rfl⟩⟩
  have hone : ∀ p ∈ L, p.2 ≠ tx "." → ∃ c, p.2 = [c] ∧ c ∈ (tx "abc" : Txt) := fun p hp h => by
    obtain ⟨c, e, hc⟩ := hS _ (sig_mem.mp ((hm p).mp hp).2)
    exact ⟨c, e, hc.resolve_left fun g => h (by rw [show p.2 = [c] from e, g]; rfl)⟩
  have hnd : L.Nodup := by
    rw [hL]
    unfold List.Nodup
    rw [List.pairwise_flatMap]
    refine ⟨fun v _ => ?_, (c2.sublist List.filter_sublist).imp fun {a b} hab x hx y hy e => ?_⟩
    · rw [List.pairwise_map]
      have hkeys : ((nl M (rnw n v)).map (·.1)).Nodup := by
        unfold nl due
        rw [List.map_map]
        have := ((srt_perm ((srt (uq (sig M (rnw n v)))).map fun (x : Txt) => (((0 : Int) - ((cnt (sig M (rnw n v)) x : Nat) : Int)), x))).map (·.2)).nodup_iff.mpr (by
          rw [List.map_map]
          show ((srt (uq (sig M (rnw n v)))).map id).Nodup
          rw [List.map_id]
          exact srt_nodup (uq_nodup _))
        exact this
      unfold List.Nodup at hkeys
      rw [List.pairwise_map] at hkeys
      exact hkeys.imp fun h e => h (by injection e)
    · obtain ⟨u, _, rfl⟩ := List.mem_map.mp hx
      obtain ⟨t, _, rfl⟩ := List.mem_map.mp hy
      injection e with e1 _
      exact hab e1
  refine srt_of (d1.sublist List.filter_sublist) (nodup_perm ?_ (d2.sublist List.filter_sublist) fun w => ?_)
  · unfold List.Nodup
    rw [List.pairwise_map]
    refine List.Pairwise.imp_of_mem (fun {a b} ha hb hab e => ?_) (hnd.sublist (List.filter_sublist (p := fun (x17 : (Txt × Txt)) => (decide (x17.2 ≠ (tx "."))))))
    obtain ⟨ha, ha2⟩ := List.mem_filter.mp ha
    obtain ⟨hb, hb2⟩ := List.mem_filter.mp hb
    obtain ⟨c, e1, _⟩ := hone a ha (of_decide_eq_true ha2)
    obtain ⟨d, e2, _⟩ := hone b hb (of_decide_eq_true hb2)
    rw [e1, e2] at e
    have := List.append_inj' e rfl
    exact hab (Prod.ext this.1 (by rw [e1, e2, this.2]))
  · rw [List.mem_map, List.mem_filter]
    constructor
    · rintro ⟨p, hp, rfl⟩
      obtain ⟨hp, hp2⟩ := List.mem_filter.mp hp
      obtain ⟨c, e1, hc⟩ := hone p hp (of_decide_eq_true hp2)
      obtain ⟨⟨h1, h2⟩, h3⟩ := (hm p).mp hp
      obtain ⟨l1, l2⟩ := cube_mem.mp h1
      rw [e1] at h3 ⊢
      refine ⟨cube_mem.mpr ⟨by rw [List.length_append, l1]; rfl, fun d hd => ?_⟩, pk_snoc.mpr ⟨h2, h3⟩⟩
      rcases List.mem_append.mp hd with hd | hd
      · exact l2 d hd
      · rw [List.mem_singleton.mp hd]; exact hc
    · rintro ⟨h1, h2⟩
      obtain ⟨l1, l2⟩ := cube_mem.mp h1
      have hne : w ≠ [] := fun e => by rw [e] at l1; cases l1
      obtain ⟨v, c, rfl⟩ : ∃ v c, w = v ++ [c] := ⟨w.dropLast, w.getLast hne, (List.dropLast_concat_getLast hne).symm⟩
      obtain ⟨h3, h4⟩ := pk_snoc.mp h2
      rw [List.length_append] at l1
      have hc : c ∈ (tx "abc" : Txt) := l2 c (by simp)
      refine ⟨(v, [c]), List.mem_filter.mpr ⟨(hm _).mpr ⟨⟨cube_mem.mpr ⟨by have : v.length + 1 = k + 1 := l1; show v.length = k; omega, fun d hd => l2 d (List.mem_append_left _ hd)⟩, h3⟩, h4⟩, decide_eq_true fun g => ?_⟩, rfl⟩
      have g : [c] = [46] := g
      injection g with g _
      subst g
      revert hc
      decide
theorem rows_le (k : Nat) (hk : k ≤ 3) : ((cube k).filter (pk n M)).length ≤ 27 := Nat.le_trans (List.length_filter_le _ _) (by rw [cube_len]; exact Nat.le_trans (Nat.pow_le_pow_right (by decide) hk) (by decide))
theorem made_ok {k : Nat} {Q : Tup Txt → Prop} (h : GM M z) (hn : n ≤ 3) (hM : M.length ≤ 1000) (hS : Sgl M) (hk : k ≤ 3) (q : Q ⟨((cube k).filter fun w => decide (((stp n w).filter fun (x : St2) => niL x M).map (fun (x : St2) => x) = ([] : List St2)))⟩) : Counts_all_made_W (CV n z, (k : Int), ()) Q E := by
  refine ⟨show -(2 ^ 62) ≤ (k : Int) ∧ (k : Int) < 2 ^ 62 by omega, ?_⟩
  show forW ((List.range ((k : Int)).toNat).map fun i : Nat => (i : Int)) [tx ""] _ _
  rw [Int.toNat_natCast]
  refine forR (fun j rows => rows = (cube j).filter (pk n M)) rfl (fun j rows hj e nx hnx => ?_) fun rows e => ?_
  · subst e
    have hj3 : j + 1 ≤ 3 := by omega
    have hlen : ∀ v ∈ (cube j).filter (pk n M), v.length = j := fun v hv => (cube_mem.mp (List.mem_filter.mp hv).1).1
    have eL : tot2 (fun _ => true) (fun v => nl M (rnw n v)) (fun _ _ => true) (fun v (x : Txt × Int) => (v, x.1)) ((cube j).filter (pk n M)) = ((cube j).filter (pk n M)).flatMap fun v => (nl M (rnw n v)).map fun x => (v, x.1) := by
      have ft : ∀ {α : Type} (l : List α), (l.filter fun _ => true) = l := fun l => List.filter_eq_self.mpr fun _ _ => rfl
      unfold tot2
      simp only [ft]
    have hl0 := rows_le (n := n) (M := M) j (by omega)
    have hLl : (((cube j).filter (pk n M)).flatMap fun v => (nl M (rnw n v)).map fun x => (v, x.1)).length ≤ 27 * 1000 := by
      have : ∀ l : List Txt, (l.flatMap fun v => (nl M (rnw n v)).map fun x => (v, x.1)).length ≤ l.length * 1000 := by
        intro l
        induction l with
        | nil => exact Nat.le_refl _
        | cons a l ih =>
          rw [List.flatMap_cons, List.length_append, List.length_map, List.length_cons]
          have := nl_len (M := M) (rnw n a)
          omega
      exact Nat.le_trans (this _) (by omega)
    refine ⟨fun _ => true, fun v => nl M (rnw n v), fun _ _ => true, fun v x => (v, x.1), fun _ _ => rfl, fun v hv _ => Cl.here (next_ok h hn (by have := hlen v hv; show v.length ≤ 100; omega) rfl), fun _ _ _ _ _ => rfl, fun _ _ _ _ _ _ => rfl, ?_, ?_⟩
    · rw [eL]; exact sl (by omega)
    · rw [eL]
      generalize hL : (((cube j).filter (pk n M)).flatMap fun v => (nl M (rnw n v)).map fun x => (v, x.1)) = L at hLl
      have hm : ∀ x ∈ L, x.1.length ≤ 3 ∧ x.2.length = 1 := fun x hx => by
        rw [← hL] at hx
        obtain ⟨v, hv, hx⟩ := List.mem_flatMap.mp hx
        obtain ⟨y, hy, rfl⟩ := List.mem_map.mp hx
        obtain ⟨c, e, _⟩ := hS _ (sig_mem.mp (nl_mem.mp hy).1)
        have e : y.1 = [c] := e
        exact ⟨by have := hlen v hv; show v.length ≤ 3; omega, by show y.1.length = 1; rw [e]; rfl⟩
      refine ⟨sl (by omega), fun _ _ => rfl, fun x hx _ => ⟨sl (by have := hm x hx; omega), rfl⟩, ?_⟩
      show Counts_all_made_w1 nx (srt ((L.filter (fun (x17 : (Txt × Txt)) => (decide (x17.2 ≠ (tx "."))))).map (fun (x17 : (Txt × Txt)) => (x17.1 ++ x17.2)))) E
      rw [next_rows hS hj3 hL.symm]
      have := rows_le (n := n) (M := M) (j + 1) hj3
      exact no_ (decide_eq_false (by omega)) (hnx _ rfl)
  · subst e
    have hlen : ∀ v ∈ (cube k).filter (pk n M), v.length = k := fun v hv => (cube_mem.mp (List.mem_filter.mp hv).1).1
    have hl0 := rows_le (n := n) (M := M) k hk
    refine ⟨sl (by omega), fun w => inL (tx ".") (sig M (rnw n w)), fun w => w, fun v hv => Cl.here (next_ok h hn (by have := hlen v hv; show v.length ≤ 100; omega) ?_), fun _ _ _ => rfl, ?_⟩
    · refine ⟨sl (Nat.le_trans (nl_len _) (by omega)), fun _ _ => rfl, ?_⟩
      show inL (tx ".") ((nl M (rnw n v)).map fun x24 => x24.1) = inL (tx ".") (sig M (rnw n v))
      unfold inL
      rw [decide_eq_decide, List.mem_map]
      constructor
      · rintro ⟨x, hx, e⟩; rw [← e]; exact (nl_mem.mp hx).1
      · intro hx; exact ⟨(tx ".", ((cnt (sig M (rnw n v)) (tx ".") : Nat) : Int)), nl_mem.mpr ⟨hx, rfl⟩, rfl⟩
    · have e : (((cube k).filter (pk n M)).filter fun w => inL (tx ".") (sig M (rnw n w))).map (fun w => w) = (cube k).filter fun w => decide (((stp n w).filter fun (x : St2) => niL x M).map (fun (x : St2) => x) = ([] : List St2)) := by
        rw [List.map_id', List.filter_filter]
        refine List.filter_congr fun w _ => ?_
        rw [Bool.and_comm]
        exact pk_stp
      show Q ⟨(((cube k).filter (pk n M)).filter fun w => inL (tx ".") (sig M (rnw n w))).map (fun w => w)⟩
      rw [e]
      exact q
end
end K08
set_option maxHeartbeats 400000
namespace K08
open PySem L2 Sp
open PySem.W (DatumOrd listLt)
theorem sum_cast {α : Type} (f : α → Nat) : ∀ l : List α, (l.map fun x => ((f x : Nat) : Int)).sum = (((l.map f).sum : Nat) : Int)
  | [] => rfl
  | a :: l => by rw [List.map_cons, List.sum_cons, sum_cast f l, List.map_cons, List.sum_cons]; omega
theorem cnt_snocG {α : Type} [DecidableEq α] (ls : List α) (w v : α) : cnt (ls ++ [w]) v = cnt ls v + if w = v then 1 else 0 := by
  unfold cnt
  rw [List.countP_append]
  by_cases e : w = v
  · simp [e]
  · simp [e]
theorem cnt_zero {α : Type} [DecidableEq α] {ls : List α} {w : α} (h : w ∉ ls) : cnt ls w = 0 := by
  unfold cnt
  rw [List.countP_eq_zero]
  intro y hy
  rw [decide_eq_true_eq]
  intro e
  exact h (e ▸ hy)
theorem sum_add {α : Type} (f g : α → Nat) : ∀ l : List α, (l.map fun x => f x + g x).sum = (l.map f).sum + (l.map g).sum
  | [] => rfl
  | a :: l => by rw [List.map_cons, List.sum_cons, sum_add f g l, List.map_cons, List.sum_cons, List.map_cons, List.sum_cons]; omega
theorem sum_one {α : Type} [DecidableEq α] (x : α) : ∀ l : List α, l.Nodup → (l.map fun v => if x = v then 1 else 0).sum = if x ∈ l then 1 else 0
  | [], _ => rfl
  | a :: l, h => by
    rw [List.nodup_cons] at h
    rw [List.map_cons, List.sum_cons, sum_one x l h.2]
    by_cases e : x = a
    · subst e; rw [if_pos rfl, if_neg h.1, if_pos List.mem_cons_self]
    · rw [if_neg e]
      by_cases e2 : x ∈ l
      · rw [if_pos e2, if_pos (List.mem_cons_of_mem _ e2)]
      · rw [if_neg e2, if_neg fun h => (List.mem_cons.mp h).elim e e2]
theorem sum_uq {α : Type} [DecidableEq α] : ∀ l : List α, ((uq l).map fun v => cnt l v).sum = l.length := snocInd rfl fun l x ih => by
  have e : ∀ k : List α, (k.map fun v => cnt (l ++ [x]) v) = k.map fun v => cnt l v + if x = v then 1 else 0 := fun k => List.map_congr_left fun v _ => cnt_snocG l x v
  rw [e, uq_snoc, List.length_append]
  by_cases h : x ∈ uq l
  · rw [if_pos h, sum_add, ih, sum_one x _ (uq_nodup l), if_pos h]; rfl
  · rw [if_neg h, sum_add, List.map_append, List.sum_append, ih, sum_one x, if_pos (by simp)]
    · rw [List.map_cons, cnt_zero fun g => h ((uq_mem _ _).mpr g)]; rfl
    · rw [List.nodup_append]
      exact ⟨uq_nodup l, by simp, fun a ha b hb e => h (by rw [List.mem_singleton.mp hb] at e; exact e ▸ ha)⟩
theorem sum_srt (l : List Txt) : ((srt (uq l)).map fun v => ((cnt l v : Nat) : Int)).sum = (l.length : Int) := by
  rw [sum_cast, ((srt_perm (uq l)).map _).sum_nat, sum_uq]
theorem sum_bd {B : Int} (hB : 0 ≤ B) : ∀ l : List Int, (∀ x ∈ l, 0 ≤ x ∧ x ≤ B) → 0 ≤ l.sum ∧ l.sum ≤ l.length * B
  | [], _ => ⟨Int.le_refl _, by simp⟩
  | a :: l, h => by
    have := sum_bd hB l fun x hx => h x (List.mem_cons_of_mem _ hx)
    have := h a List.mem_cons_self
    rw [List.sum_cons, List.length_cons]
    rw [show ((l.length + 1 : Nat) : Int) * B = (l.length : Int) * B + B by rw [Int.natCast_add, Int.add_mul]; simp]
    omega
theorem sumOk {l : List Int} (hl : l.length ≤ 1000) (h : ∀ x ∈ l, 0 ≤ x ∧ x ≤ 1000) : SumOk l := fun j hj => by
  have hm : l.getD j 0 ∈ l := by rw [List.getD_eq_getElem?_getD, List.getElem?_eq_getElem hj]; exact List.getElem_mem hj
  have h1 := h _ hm
  have h2 := sum_bd (B := 1000) (by decide) (l.take (j + 1)) fun x hx => h x (List.mem_of_mem_take hx)
  have h3 : (l.take (j + 1)).length ≤ 1000 := by rw [List.length_take]; omega
  refine ⟨⟨by omega, by omega⟩, by omega, by omega⟩
abbrev rsI (w : Txt) (m : Int) : List Txt := ((List.range ((((w.length : Int) - m) + (1 : Int))).toNat).map fun i : Nat => (i : Int)).map (fun (x3 : Int) => (cutD w (some x3) (some (x3 + m))))
theorem rsI_len {w : Txt} {m : Int} (hm : 1 ≤ m) : (rsI w m).length ≤ w.length := by
  unfold rsI
  rw [List.length_map, List.length_map, List.length_range]
  omega
abbrev rcs (R : List Txt) : List (Txt × Int) := (srt (uq R)).map fun (x6 : Txt) => (x6, ((cnt R x6 : Nat) : Int))
theorem runs_ok {w : Txt} {m : Int} {Q : TupN (Txt × Int) → Prop} {E : Ex → Prop} (hm : 1 ≤ m) (hm2 : m ≤ 1000) (hw : w.length ≤ 100) (q : Q (TupN.mk ⟨rcs (rsI w m)⟩)) : runs_in_W (w, m, ()) Q E := by
  have hl := rsI_len (w := w) hm
  refine no_ (decide_eq_false (by show ¬ m < 1; omega)) ⟨sl (show w.length ≤ 1000000 by omega), ⟨show -(2 ^ 62) ≤ ((w.length : Int) - m) + 1 by omega, show ((w.length : Int) - m) + 1 < 2 ^ 62 by omega⟩, ?_, fun x _ => ⟨sl (show w.length ≤ 1000000 by omega), rfl⟩, ?_⟩
  · rw [List.length_map, List.length_range]
    exact sl (by show (((w.length : Int) - m) + 1).toNat ≤ _; omega)
  · show runs_in_w1 (rsI w m) Q
    refine ⟨sl (by omega), fun _ _ => rfl, ?_⟩
    rw [one_keys]
    exact ⟨sl (by rw [srt_len]; have := uq_len (rsI w m); omega), fun _ _ => rfl, q⟩
theorem runs_0 {w : Txt} {Q : TupN (Txt × Int) → Prop} {E : Ex → Prop} (e : E .BadCount) : runs_in_W (w, (0 : Int), ()) Q E := yes_ (show decide ((0 : Int) < 1) = true by decide) e
theorem dval_graph {κ ν : Type} [DecidableEq κ] (F : κ → ν) (j : κ) : ∀ ks : List κ, dval (ks.map fun v => (v, F v)) j = if j ∈ ks then some (F j) else none
  | [] => rfl
  | k :: r => by
    rw [List.map_cons, dval_cons, dval_graph F j r]
    by_cases e : k = j
    · subst e; rw [if_pos rfl, if_pos List.mem_cons_self]
    · rw [if_neg e]
      by_cases e2 : j ∈ r
      · rw [if_pos e2, if_pos (List.mem_cons_of_mem _ e2)]
      · rw [if_neg e2, if_neg fun h => (List.mem_cons.mp h).elim (fun x => e x.symm) e2]
theorem rcs_merge (R : List Txt) : dmerge [] (rcs R) = rcs R := by
  rw [dmerge_new _ _ (by
    rw [List.map_nil, List.nil_append]
    unfold rcs
    rw [List.map_map]
    show ((srt (uq R)).map id).Nodup
    rw [List.map_id]
    exact srt_nodup (uq_nodup R))]
  rfl
theorem rcs_get (R : List Txt) (x : Txt) : (dval (rcs R) x).getD (0 : Int) = ((cnt R x : Nat) : Int) := by
  unfold rcs
  rw [dval_graph]
  by_cases h : x ∈ srt (uq R)
  · rw [if_pos h]; rfl
  · rw [if_neg h, cnt_zero fun g => h (srt_mem.mpr ((uq_mem _ _).mpr g))]; rfl
abbrev shr (R T : List Txt) : Int := ((srt (uq R)).map (fun (x67 : Txt) => (min ((cnt R x67 : Nat) : Int) ((cnt T x67 : Nat) : Int)))).sum
theorem shr_bd {R T : List Txt} (hR : R.length ≤ 100) : 0 ≤ shr R T ∧ shr R T ≤ 10000 := by
  have hu := uq_len R
  have hc : ∀ x, cnt R x ≤ R.length := fun x => List.countP_le_length
  have := sum_bd (B := 100) (by decide) ((srt (uq R)).map (fun (x67 : Txt) => (min ((cnt R x67 : Nat) : Int) ((cnt T x67 : Nat) : Int)))) fun y hy => by
    obtain ⟨x, _, rfl⟩ := List.mem_map.mp hy
    have := hc x
    omega
  rw [List.length_map, srt_len] at this
  unfold shr
  omega
theorem likeness_ok {v w : Txt} {m : Int} {Q : Int × Int → Prop} {E : Ex → Prop} (hm : 1 ≤ m) (hm2 : m ≤ 1000) (hv : v.length ≤ 100) (hw : w.length ≤ 100) (q : Q ((2 : Int) * shr (rsI v m) (rsI w m), ((rsI v m).length : Int) + ((rsI w m).length : Int))) : run_likeness_W (v, w, m, ()) Q E := by
  refine Cl.here (runs_ok hm hm2 hv ?_)
  refine Cl.here (runs_ok hm hm2 hw ?_)
  show run_likeness_w2 (Dct.mk (dmerge [] (rcs (rsI v m))), Dct.mk (dmerge [] (rcs (rsI w m)))) Q
  rw [rcs_merge, rcs_merge]
  have hl := rsI_len (w := v) hm
  have hu := uq_len (rsI v m)
  have hc : ∀ x, cnt (rsI v m) x ≤ (rsI v m).length := fun x => List.countP_le_length
  have e : ((rcs (rsI v m)).map (fun (x7 : (Txt × Int)) => (min x7.2 ((dval (rcs (rsI w m)) x7.1).getD (0 : Int))))) = (srt (uq (rsI v m))).map (fun (x67 : Txt) => (min ((cnt (rsI v m) x67 : Nat) : Int) ((cnt (rsI w m) x67 : Nat) : Int))) := by
    unfold rcs
    rw [List.map_map]
    refine List.map_congr_left fun x _ => ?_
    show min _ ((dval (rcs (rsI w m)) x).getD (0 : Int)) = _
    rw [rcs_get]
  refine ⟨rfl, fun _ _ => rfl, ?_, ?_⟩
  · show SumOk ((rcs (rsI v m)).map (fun (x7 : (Txt × Int)) => (min x7.2 ((dval (rcs (rsI w m)) x7.1).getD (0 : Int)))))
    rw [e]
    refine sumOk (by rw [List.length_map, srt_len]; omega) fun y hy => ?_
    obtain ⟨x, _, rfl⟩ := List.mem_map.mp hy
    have := hc x
    omega
  · show run_likeness_w1 _ ((rcs (rsI v m)).map (fun (x7 : (Txt × Int)) => (min x7.2 ((dval (rcs (rsI w m)) x7.1).getD (0 : Int))))).sum Q
    rw [e]
    have e2 : ∀ R : List Txt, ((rcs R).map fun q => q.2).sum = (R.length : Int) := fun R => by
      unfold rcs
      rw [List.map_map]
      exact sum_srt R
    refine ⟨.inl ⟨by decide, by decide⟩, ?_⟩
    show Q (_, ((rcs (rsI v m)).map fun q => q.2).sum + ((rcs (rsI w m)).map fun q => q.2).sum)
    rw [e2, e2]
    exact q
abbrev TI : Type := Sp.T3 Int Int Txt
abbrev mrk (w : Txt) (m : Int) (x : Txt) : List TI := if (decide ((0 : Int) < shr (rsI w m) (rsI x m))) = true then [(PySem.W.T3.mk ((2 : Int) * shr (rsI w m) (rsI x m)) (((rsI w m).length : Int) + ((rsI x m).length : Int)) x)] else ([] : List TI)
abbrev mrks (w : Txt) (m : Int) (l : List Txt) : List TI := l.flatMap (mrk w m)
abbrev btT (x y : TI) : Prop := y.a * x.b < x.a * y.b
theorem btT_bt : Bt btT fun x => 0 < x.b := ⟨fun a b h1 h2 => by unfold btT at *; omega, fun a b c ha hb hc h1 h2 => by
  have h1 : b.a * a.b < a.a * b.b := h1
  have h2 : c.a * b.b ≤ b.a * c.b := Int.not_lt.mp h2
  have e1 : (b.a * a.b) * c.b < (a.a * b.b) * c.b := Int.mul_lt_mul_of_pos_right h1 hc
  have e2 : (c.a * b.b) * a.b ≤ (b.a * c.b) * a.b := Int.mul_le_mul_of_nonneg_right h2 (Int.le_of_lt ha)
  show c.a * a.b < a.a * c.b
  refine Int.lt_of_mul_lt_mul_right (a := b.b) ?_ (Int.le_of_lt hb)
  have e3 : c.a * a.b * b.b = (c.a * b.b) * a.b := by rw [Int.mul_right_comm]
  have e4 : a.a * c.b * b.b = (a.a * b.b) * c.b := by rw [Int.mul_right_comm]
  have e5 : (b.a * a.b) * c.b = (b.a * c.b) * a.b := by rw [Int.mul_right_comm]
  omega⟩
section
variable {w : Txt} {m : Int} {ws : List Txt} {E : Ex → Prop}
theorem mrks_ok (hm : 1 ≤ m) (hw : w.length ≤ 100) {x : TI} {l : List Txt} (hl : ∀ y ∈ l, y.length ≤ 100) (h : x ∈ mrks w m l) : 0 < x.b ∧ x.b ≤ 200 ∧ 0 ≤ x.a ∧ x.a ≤ 20000 := by
  obtain ⟨y, hy, hx⟩ := List.mem_flatMap.mp h
  unfold mrk at hx
  by_cases c : (0 : Int) < shr (rsI w m) (rsI y m)
  · rw [if_pos (decide_eq_true c)] at hx
    rw [List.mem_singleton.mp hx]
    have h1 := rsI_len (w := w) hm
    have h2 := rsI_len (w := y) hm
    have h3 := hl y hy
    have h4 := shr_bd (T := rsI y m) (show (rsI w m).length ≤ 100 by omega)
    have h5 : (rsI w m).length ≠ 0 := fun e => by
      have e2 : rsI w m = [] := List.eq_nil_of_length_eq_zero e
      have e3 : srt (uq (rsI w m)) = [] := List.eq_nil_of_length_eq_zero (by rw [srt_len, e2]; rfl)
      have : shr (rsI w m) (rsI y m) = 0 := by unfold shr; rw [e3]; rfl
      omega
    show 0 < (((rsI w m).length : Int) + ((rsI y m).length : Int)) ∧ (((rsI w m).length : Int) + ((rsI y m).length : Int)) ≤ 200 ∧ 0 ≤ (2 : Int) * shr (rsI w m) (rsI y m) ∧ (2 : Int) * shr (rsI w m) (rsI y m) ≤ 20000
    omega
  · rw [if_neg (by rw [decide_eq_true_eq]; exact c)] at hx
    cases hx
abbrev besT (marks : List TI) : List Txt := (marks.filter (fun (x75 : TI) => (decide (((marks.filter (fun (x76 : TI) => (decide ((x75.a * x76.b) < (x76.a * x75.b))))).map (fun (x76 : TI) => x76)) = ([] : List TI))))).map (fun (x75 : TI) => x75.c)
theorem besT_head {marks : List TI} {b : TI} (h : Fst btT marks b) : ∃ r, besT marks = b.c :: r := by
  obtain ⟨r, hr⟩ := h.head (fun x75 => (decide (((marks.filter (fun (x76 : TI) => (decide ((x75.a * x76.b) < (x76.a * x75.b))))).map (fun (x76 : TI) => x76)) = ([] : List TI)))) fun y hy => by
    rw [decide_eq_true_eq, List.map_id', List.filter_eq_nil_iff]
    constructor
    · intro g x hx c; exact g x hx (decide_eq_true c)
    · intro g x hx c; exact g x hx (of_decide_eq_true c)
  exact ⟨r.map _, by unfold besT; rw [hr]; rfl⟩
theorem most_ok {Q : Txt → Prop} (hm : 1 ≤ m) (hm2 : m ≤ 1000) (hw : w.length ≤ 100) (hl : ws.length ≤ 1000) (hws : ∀ x ∈ ws, x.length ≤ 100) (q0 : besT (mrks w m (srt (uq ws))) = [] → E .NoWay) (q1 : ∀ b r, besT (mrks w m (srt (uq ws))) = b :: r → Q b) : most_like_W (ws, w, m, ()) Q E := by
  refine ⟨sl (show ws.length ≤ 1000000 by omega), fun _ _ => rfl, ?_⟩
  show forW (srt ((Dct.mk (dmerge [] (ws.map fun x => (x, (1 : Int))))).kvs.map (·.1))) (none : Option TI) _ _
  rw [one_keys]
  have hmem : ∀ x ∈ srt (uq ws), x.length ≤ 100 := fun x hx => hws x ((uq_mem _ _).mp (srt_mem.mp hx))
  refine forL (fun l best => (best = none ∧ mrks w m l = []) ∨ ∃ b, best = some b ∧ Fst btT (mrks w m l) b) (.inl ⟨rfl, rfl⟩) (fun l x r best he hP nx hnx => ?_) fun best hP => ?_
  · have hx := hmem x (by rw [he]; simp)
    have hll : ∀ y ∈ l, y.length ≤ 100 := fun y hy => hmem y (by rw [he]; exact List.mem_append_left _ hy)
    have hllx : ∀ y ∈ l ++ [x], y.length ≤ 100 := fun y hy => by
      rcases List.mem_append.mp hy with hy | hy
      · exact hll y hy
      · rw [List.mem_singleton.mp hy]; exact hx
    have em : mrks w m (l ++ [x]) = mrks w m l ++ mrk w m x := by unfold mrks; rw [List.flatMap_append]; simp
    refine Cl.here (likeness_ok hm hm2 hw hx ?_)
    have h1 := rsI_len (w := w) hm
    have h2 := rsI_len (w := x) hm
    have h4 := shr_bd (T := rsI x m) (show (rsI w m).length ≤ 100 by omega)
    have hpos : (decide ((0 : Int) < (2 : Int) * shr (rsI w m) (rsI x m))) = decide ((0 : Int) < shr (rsI w m) (rsI x m)) := by rw [decide_eq_decide]; omega
    refine ⟨fun g => ⟨fun hs => ?_, rfl⟩, ?_⟩
    · rcases hP with ⟨rfl, _⟩ | ⟨b, rfl, hF⟩
      · cases hs
      · obtain ⟨b1, b2, b3, b4⟩ := mrks_ok hm hw hll hF.mem
        refine ⟨rfl, .inr ⟨?_, ?_⟩, rfl, .inr ⟨?_, ?_⟩, rfl⟩
        · show -(2 ^ 64) < b.b; omega
        · show b.b < 2 ^ 64; omega
        · show -(2 ^ 64) < (((rsI w m).length : Int) + ((rsI x m).length : Int)); omega
        · show (((rsI w m).length : Int) + ((rsI x m).length : Int)) < 2 ^ 64; omega
    · refine ifJ.mk (fun g => hnx _ ?_) fun g => hnx _ ?_
      · rw [Bool.and_eq_true] at g
        obtain ⟨g1, g2⟩ := g
        have g1 : decide ((0 : Int) < (2 : Int) * shr (rsI w m) (rsI x m)) = true := g1
        rw [hpos] at g1
        have emx : mrk w m x = [(PySem.W.T3.mk ((2 : Int) * shr (rsI w m) (rsI x m)) (((rsI w m).length : Int) + ((rsI x m).length : Int)) x)] := by unfold mrk; rw [if_pos g1]
        refine .inr ⟨_, rfl, ?_⟩
        rw [em, emx]
        rcases hP with ⟨rfl, e0⟩ | ⟨b, rfl, hF⟩
        · rw [e0]; exact Fst.one btT_bt _
        · refine hF.take btT_bt (fun y hy => (mrks_ok hm hw hll hy).1) ?_ ?_
          · have : (PySem.W.T3.mk ((2 : Int) * shr (rsI w m) (rsI x m)) (((rsI w m).length : Int) + ((rsI x m).length : Int)) x) ∈ mrks w m (l ++ [x]) := by rw [em, emx]; simp
            exact (mrks_ok hm hw hllx this).1
          · exact of_decide_eq_true g2
      · rw [Bool.and_eq_false_iff] at g
        by_cases g1 : decide ((0 : Int) < shr (rsI w m) (rsI x m)) = true
        · have emx : mrk w m x = [(PySem.W.T3.mk ((2 : Int) * shr (rsI w m) (rsI x m)) (((rsI w m).length : Int) + ((rsI x m).length : Int)) x)] := by unfold mrk; rw [if_pos g1]
          have g2 := g.resolve_left fun h => by
            have h : decide ((0 : Int) < (2 : Int) * shr (rsI w m) (rsI x m)) = false := h
            rw [hpos, g1] at h; cases h
          rcases hP with ⟨rfl, e0⟩ | ⟨b, rfl, hF⟩
          · cases g2
          · refine .inr ⟨b, rfl, ?_⟩
            rw [em, emx]
            exact hF.keep (of_decide_eq_false g2)
        · have emx : mrk w m x = [] := by unfold mrk; rw [if_neg g1]
          rw [em, emx, List.append_nil]
          exact hP
  · rcases hP with ⟨rfl, e0⟩ | ⟨b, rfl, hF⟩
    · exact ⟨fun _ => q0 (by rw [e0]; rfl), fun g => by cases g⟩
    · obtain ⟨r, hr⟩ := besT_head hF
      exact ⟨fun g => (by cases g), fun _ => ⟨rfl, q1 _ r hr⟩⟩
end
end K08
set_option maxHeartbeats 400000
namespace K08
open PySem L2 Sp
open PySem.W (DatumOrd listLt)
abbrev cells (m : Rws) : Nat := (m.map fun p => p.2.length + 1).sum
theorem cells_snoc (l : Rws) (x : Txt × Whl) : cells (l ++ [x]) = cells l + (x.2.length + 1) := by unfold cells; rw [List.map_append, List.sum_append]; simp
theorem cells_le {B : Nat} : ∀ (m : Rws), (∀ p ∈ m, p.2.length ≤ B) → cells m ≤ m.length * (B + 1)
  | [], _ => Nat.zero_le _
  | p :: r, h => by
    have h1 := cells_le r fun q hq => h q (List.mem_cons_of_mem _ hq)
    have h2 := h p List.mem_cons_self
    unfold cells at *
    rw [List.map_cons, List.sum_cons, List.length_cons, Nat.succ_mul]
    omega
theorem row_snoc {l : Rws} {x : Txt × Whl} (h : x.1 ∉ l.map (·.1)) (a : Txt) : row (l ++ [x]) a = if a = x.1 then x.2 else row l a := by
  unfold row
  rw [dval_app, dval_cons, dval_nil]
  by_cases e : a = x.1
  · subst e
    rw [dval_none.mpr h, if_pos rfl, if_pos rfl]; rfl
  · rw [if_neg (Ne.symm e), if_neg e]
    cases dval l a <;> rfl
section
variable {n : Nat} {f : Txt → Txt → Int} {g : Txt → Int} {N : Nat} {y : Rws × Whl} {F : Txt → Txt → Int} {G : Txt → Int} {K : Nat} {E : Ex → Prop}
theorem both_row {x : Txt × Whl} (hx : (x.2.map (·.1)).Nodup) (hp : ∀ q ∈ x.2, 0 < q.2) {z : Rws × Whl} (hz : Gd F G K z) (hK : K + x.2.length ≤ 100000) {nx : Rws × Whl → Prop}
    (hn : ∀ z', Gd (fun a b => F a b + if a = x.1 then (dval x.2 b).getD 0 else 0) (fun a => G a + if a = x.1 then (x.2.map (·.2)).sum else 0) (K + (x.2.length + 1)) z' → nx z') :
    forW x.2 (hop z.1 x.1, z.2) (fun (p : Txt × Int) (z : Rws × Whl) (nx : Rws × Whl → Prop) => Counts_both_c x.1 p z nx) nx := by
  refine forL (fun l z => Gd (fun a b => F a b + if a = x.1 then (dval l b).getD 0 else 0) (fun a => G a + if a = x.1 then (l.map (·.2)).sum else 0) (K + 1 + l.length) z ∧ (dval z.1 x.1).isSome = true) ?_ (fun l p r z he hP nx2 hnx => ?_) fun z hP => ?_
  · refine ⟨(hz.hop x.1).congr (fun a b => ?_) fun a => ?_, hop_some _ _⟩
    · by_cases c : a = x.1
      · rw [if_pos c]; show F a b = F a b + 0; omega
      · rw [if_neg c]; omega
    · by_cases c : a = x.1
      · rw [if_pos c]; show G a = G a + 0; omega
      · rw [if_neg c]; omega
  · obtain ⟨hG, hs⟩ := hP
    have hl : l.length + 1 ≤ x.2.length := by have := congrArg List.length he; rw [List.length_append, List.length_cons] at this; omega
    have hpn : p.1 ∉ l.map (·.1) := by
      rw [he, List.map_append, List.nodup_append] at hx
      intro hm
      exact hx.2.2 _ hm p.1 (by simp) rfl
    obtain ⟨h1, h2⟩ := hG.put (b := p.2 |> fun _ => p.1) (hp p (by rw [he]; simp)) hs
    refine ⟨hs, sl2 (by have := (hG.rowP x.1).2.1; show (row z.1 x.1).length < _; omega), sl2 (by have := hG.l2; omega), hnx _ ⟨?_, h2⟩⟩
    have h3 := h1.congr (f' := fun a b => F a b + if a = x.1 then (dval (l ++ [p]) b).getD 0 else 0) (g' := fun a => G a + if a = x.1 then ((l ++ [p]).map (·.2)).sum else 0) (fun a b => ?_) fun a => ?_
    · rw [List.length_append]; exact h3
    · by_cases c : a = x.1
      · rw [if_pos c, if_pos c, dval_app, dval_cons, dval_nil]
        by_cases d : b = p.1
        · rw [if_pos ⟨c, d⟩, if_pos d.symm, d, dval_none.mpr hpn]
          show F a p.1 + 0 + p.2 = F a p.1 + p.2
          omega
        · rw [if_neg fun e => d e.2, if_neg (Ne.symm d)]
          have e : ((dval l b).or none) = dval l b := by cases dval l b <;> rfl
          rw [e]
          omega
      · rw [if_neg c, if_neg c, if_neg fun e => c e.1]; omega
    · by_cases c : a = x.1
      · rw [if_pos c, if_pos c, if_pos c, List.map_append, List.sum_append]
        show G a + _ + p.2 = G a + (_ + (p.2 + 0))
        omega
      · rw [if_neg c, if_neg c, if_neg c]; omega
  · exact hn z (hP.1.mono (by omega))
theorem both_one (hy : Gd f g N y) (hN : N ≤ 40) {z : Rws × Whl} (hz : Gd F G K z) (hK : K ≤ 5000) {nx : Rws × Whl → Prop} (hn : ∀ z', Gd (fun a b => F a b + f a b) (fun a => G a + g a) (K + 1640) z' → nx z') :
    forW ((CV n y).rows.kvs.map (·.1)) z (fun (start : Txt) (z : Rws × Whl) (nx : Rws × Whl → Prop) => Counts_both_b (CV n y) start z nx) nx := by
  show forW ((frzH y.1).map (·.1)) z _ nx
  rw [show (frzH y.1).map (·.1) = y.1.map (·.1) by unfold frzH; rw [List.map_map]; rfl]
  have hcl : ∀ l : Rws, (∀ p ∈ l, p ∈ y.1) → l.length ≤ y.1.length → cells l ≤ 1640 := fun l hl hll => by
    have h1 := cells_le (B := 40) l fun p hp => Nat.le_trans (hy.nr p (hl p hp)).2.1 hN
    have h2 := hy.l1
    have : l.length * 41 ≤ 40 * 41 := Nat.mul_le_mul_right _ (by omega)
    omega
  refine forLM (fun l z => Gd (fun a b => F a b + (dval (row l a) b).getD 0) (fun a => G a + ((row l a).map (·.2)).sum) (K + cells l) z) ?_ (fun l x r z he hG nx2 hnx => ?_) fun z hG => hn z ?_
  · exact hz.congr (fun a b => by show F a b = F a b + 0; omega) fun a => by show G a = G a + 0; omega
  · have hx : x ∈ y.1 := by rw [he]; simp
    have hsub : ∀ p ∈ l, p ∈ y.1 := fun p hp => by rw [he]; exact List.mem_append_left _ hp
    have hll : l.length ≤ y.1.length := by have := congrArg List.length he; rw [List.length_append] at this; omega
    have hc := hcl l hsub hll
    have hxn : x.1 ∉ l.map (·.1) := by
      have := hy.nk
      rw [he, List.map_append, List.nodup_append] at this
      intro hm
      exact this.2.2 _ hm x.1 (by simp) rfl
    obtain ⟨x1, x2, x3⟩ := hy.nr x hx
    have hv : dval (frzH y.1) x.1 = some (Dct.mk x.2) := val_of_mem (by unfold frzH; rw [List.map_map]; exact hy.nk) (List.mem_map.mpr ⟨x, hx, rfl⟩)
    refine ⟨sl2 (by have := hG.l1; omega), by show dhas (frzH y.1) x.1 = true; unfold dhas; rw [hv]; rfl, ?_⟩
    have hg : dgt (CV n y).rows.kvs x.1 = Dct.mk x.2 := by show dgt (frzH y.1) x.1 = _; unfold dgt; rw [hv]; rfl
    rw [hg]
    show forW x.2 (hop z.1 x.1, z.2) _ nx2
    refine both_row x1 x3 hG (by omega) fun z' hz' => hnx z' ?_
    rw [cells_snoc, ← Nat.add_assoc]
    refine hz'.congr (fun a b => ?_) fun a => ?_
    · rw [row_snoc hxn]
      by_cases c : a = x.1
      · rw [if_pos c, if_pos c]
        have : row l a = [] := by unfold row; rw [c, dval_none.mpr hxn]; rfl
        rw [this]
        show F a b + 0 + _ = _
        omega
      · rw [if_neg c, if_neg c]; omega
    · rw [row_snoc hxn]
      by_cases c : a = x.1
      · rw [if_pos c, if_pos c]
        have : row l a = [] := by unfold row; rw [c, dval_none.mpr hxn]; rfl
        rw [this]
        show G a + 0 + _ = _
        omega
      · rw [if_neg c, if_neg c]; omega
  · have hc := hcl y.1 (fun _ h => h) (Nat.le_refl _)
    exact (hG.congr (fun a b => by rw [hy.vl]) fun a => by rw [← hy.sm]).mono (by omega)
end
theorem cM_app (M M' : List St2) (a b : Txt) : cM (M ++ M') a b = cM M a b + cM M' a b := by unfold cM cnt; rw [List.countP_append]; simp
theorem cS_app (M M' : List St2) (a : Txt) : cS (M ++ M') a = cS M a + cS M' a := by
  unfold cS
  rw [List.map_id', List.map_id', List.map_id', List.filter_append, List.length_append]; simp
section
variable {n : Nat} {M M' : List St2} {y y' : Rws × Whl} {E : Ex → Prop}
theorem both_ok {Q : CountsV → Prop} (hn : n ≤ 3) (h : GM M y) (h' : GM M' y') (hM : M.length ≤ 40) (hM' : M'.length ≤ 40) (q : ∀ z, Gd (cM (M ++ M')) (cS (M ++ M')) 5000 z → Q (CV n z)) : Counts_both_W (CV n y, CV n y', ()) Q E := by
  refine no_ (decide_eq_false (fun g => g rfl)) ⟨?_, ?_⟩
  · show (1 : Int) ≤ sz n ∧ sz n ≤ 4
    unfold sz; omega
  show forW ([y, y'].map (CV n)) (([], []) : Rws × Whl) _ _
  refine ⟨fun i z => (i = 0 ∧ z = ([], [])) ∨ (i = 1 ∧ Gd (cM M) (cS M) 2000 z) ∨ (i = 2 ∧ Gd (cM (M ++ M')) (cS (M ++ M')) 5000 z), .inl ⟨rfl, rfl⟩, fun i x z hx hP => ?_, fun z hP => ?_⟩
  · rcases hP with ⟨rfl, rfl⟩ | ⟨rfl, hz⟩ | ⟨rfl, hz⟩
    · cases hx
      refine both_one h hM Gd.nil (Nat.zero_le _) fun z' hz' => .inr (.inl ⟨rfl, ?_⟩)
      exact (hz'.congr (fun a b => by show 0 + _ = _; omega) fun a => by show 0 + _ = _; omega).mono (by omega)
    · cases hx
      refine both_one h' hM' hz (by omega) fun z' hz' => .inr (.inr ⟨rfl, ?_⟩)
      exact (hz'.congr (fun a b => (cM_app M M' a b).symm) fun a => (cS_app M M' a).symm).mono (by omega)
    · cases hx
  · rcases hP with ⟨e, _⟩ | ⟨e, _⟩ | ⟨_, hz⟩
    · cases e
    · cases e
    · exact q z hz
theorem both_bad {Q : CountsV → Prop} {c d : CountsV} (h : d.size ≠ c.size) (e : E .BadCount) : Counts_both_W (c, d, ()) Q E := yes_ (decide_eq_true h) e
end
end K08
set_option maxHeartbeats 400000
namespace K08
open PySem L2 Sp
open PySem.W (DatumOrd listLt)
theorem lword_ok {ls : Txt} {lo hi : Int} {Q : Txt → Prop} {E : Ex → Prop} (h0 : 0 ≤ lo) (h1 : lo ≤ hi) (h2 : hi ≤ 1000) (hl : 0 < ls.length) (hl2 : ls.length ≤ 1000) (q : ∀ y : Txt, (∀ c ∈ y, c ∈ ls) → lo ≤ y.length → (y.length : Int) ≤ hi → Q y) : law_word_W (ls, lo, hi, ()) Q E := word_raw h0 h1 h2 hl hl2 q
theorem lunlike_ok {ws : List Txt} {Q : List Txt → Prop} {E : Ex → Prop} (h : ws.length ≤ 100000) (q : Q (srt (uq ws))) : law_unlike_W (ws, ()) Q E := unlike_raw h q
theorem flat_ok {rows : List (List St2)} {Q : List St2 → Prop} {E : Ex → Prop} (h : rows.flatten.length ≤ 1000000) (q : Q rows.flatten) : law_flat_W (rows, ()) Q E := flat_raw h q
theorem flat2_ok {rows : List (List Txt)} {Q : List Txt → Prop} {E : Ex → Prop} (h : rows.flatten.length ≤ 1000000) (q : Q rows.flatten) : law_flat_2_W (rows, ()) Q E := flat_raw h q
theorem cases_ok {Q : Bool → Prop} {E : Ex → Prop} (q : Q true) : law_cases1_W () Q E := by
  refine Cl.exc (e := .BadWord) (init_A rfl) ⟨_, rfl, told_o rfl ?_⟩
  exact Cl.exc (e := .BadCount) (runs_0 rfl) ⟨_, rfl, ne_no rfl q⟩
section
variable {n : Nat} {ws : List Txt} {z : Rws × Whl} {w : Txt} {Q : Bool → Prop}
theorem r7_ok (hn : n ≤ 2) (q : Q true) : law_rest1_w7 (CV n z) Q := by
  show Cl (Counts_init_W (([] : List Txt), sz 3, ())) _ _
  refine Cl.here (init_ok (by decide) (fun w h => by cases h) (by decide) fun z' _ => ?_)
  refine Cl.exc (e := .BadCount) (both_bad (by show sz 3 ≠ sz n; unfold sz; omega) rfl) ⟨_, rfl, told_o rfl ?_⟩
  exact Cl.here (cases_ok (nt_ rfl q))
theorem r8_ok (hn : n ≤ 2) (q : Q true) : law_rest1_w8 (CV n z) Q := by
  show Cl (lowest_W (((6 : Nat) : Int), ((4 : Nat) : Int), ())) _ NoE
  refine Cl.here (lowest_ok (by decide) (by decide) ?_)
  refine ne_no (by decide) ?_
  exact Cl.exc (e := .BadCount) (init_5 rfl) ⟨_, rfl, told_o rfl (r7_ok hn q)⟩
theorem r9_ok {m : Int} (hn : n ≤ 2) (hm : 1 ≤ m) (hm2 : m ≤ 1000) (hw : w.length ≤ 100) (hl : ws.length ≤ 1000) (hws : ∀ x ∈ ws, x.length ≤ 100) (q : Q true) : law_rest1_w9 ws (CV n z) w m (besT (mrks w m (srt (uq ws)))) Q := by
  generalize hb : besT (mrks w m (srt (uq ws))) = B
  show Cl (most_like_W (ws, w, m, ())) _ _
  cases B with
  | nil =>
    refine Cl.exc (e := .NoWay) (most_ok hm hm2 hw hl hws (fun _ => rfl) fun b r e => (by rw [hb] at e; cases e)) ⟨_, rfl, fun g => absurd rfl (of_decide_eq_true g), fun _ => rfl, ne_no ?_ (r8_ok hn q)⟩
    rfl
  | cons b r =>
    refine Cl.here (most_ok hm hm2 hw hl hws (fun e => by rw [hb] at e; cases e) fun b' r' e => ?_)
    rw [hb] at e
    injection e with e1 e2
    subst e1
    refine ⟨fun _ => ⟨ir (k := 0) rfl (Nat.succ_pos _), rfl⟩, fun g => absurd (of_decide_eq_false g) (by simp), ne_no ?_ (r8_ok hn q)⟩
    rfl
theorem r11_ok {m : Int} (hn : n ≤ 2) (hm : 1 ≤ m) (hm2 : m ≤ 1000) (hw : w.length ≤ 100) (hl : ws.length ≤ 1000) (hws : ∀ x ∈ ws, x.length ≤ 100) (q : Q true) : law_rest1_w12 ws (CV n z) w m (rsI w m) Q := by
  show Cl (law_unlike_W (ws, ())) _ NoE
  refine Cl.here (lunlike_ok (by omega) ?_)
  have hmem : ∀ x ∈ srt (uq ws), x.length ≤ 100 := fun x hx => hws x ((uq_mem _ _).mp (srt_mem.mp hx))
  have ul := uq_len ws
  have hml : ∀ l : List Txt, (mrks w m l).length ≤ l.length := fun l => by
    induction l with
    | nil => exact Nat.le_refl _
    | cons a l ih =>
      have : (mrk w m a).length ≤ 1 := by unfold mrk; split <;> simp
      show (mrk w m a ++ mrks w m l).length ≤ _
      rw [List.length_append, List.length_cons]
      omega
  have hwl := rsI_len (w := w) hm
  show forW (srt (uq ws)) ([] : List TI) _ _
  refine forL (fun l z => z = mrks w m l) rfl (fun l x r z0 he hz nx hnx => ?_) fun z0 hz => ?_
  · subst hz
    have hx := hmem x (by rw [he]; simp)
    have hxl := rsI_len (w := x) hm
    have hll : l.length ≤ 1000 := by
      have := congrArg List.length he
      rw [srt_len, List.length_append] at this
      omega
    have h4 := shr_bd (T := rsI x m) (show (rsI w m).length ≤ 100 by omega)
    refine ⟨sl (by omega), ⟨by omega, by omega⟩, ?_, fun y _ => ⟨sl (by omega), rfl⟩, ?_⟩
    · rw [List.length_map, List.length_range]; exact sl (by omega)
    show law_rest1_w4 w m (rsI w m) x nx (mrks w m l) (rsI x m) Q
    refine Cl.here (lunlike_ok (by omega) ?_)
    refine ⟨sl (by rw [srt_len]; have := uq_len (rsI w m); omega), fun _ _ => rfl, ?_⟩
    show law_rest1_w3 w m (rsI w m) x nx (mrks w m l) (rsI x m) (shr (rsI w m) (rsI x m)) Q
    refine Cl.here (likeness_ok hm hm2 hw hx ?_)
    refine ⟨.inl ⟨by decide, by decide⟩, ne_no rfl ⟨fun _ => ⟨.inl ⟨by decide, by decide⟩, rfl⟩, fun _ => rfl, ?_, hnx _ ?_⟩⟩
    · have h1 := hml l
      have h2 : (mrk w m x).length ≤ 1 := by unfold mrk; split <;> simp
      exact sl (by show (mrks w m l).length + (mrk w m x).length ≤ _; omega)
    · show mrks w m l ++ mrk w m x = mrks w m (l ++ [x])
      unfold mrks; rw [List.flatMap_append]; simp
  · subst hz
    have h1 := hml (srt (uq ws))
    rw [srt_len] at h1
    have hmk : ∀ x ∈ mrks w m (srt (uq ws)), 0 < x.b ∧ x.b ≤ 200 ∧ 0 ≤ x.a ∧ x.a ≤ 20000 := fun x hx => mrks_ok hm hw hmem hx
    refine ⟨sl (by omega), fun x hx => ⟨sl (by omega), fun y hy => ?_, fun _ _ _ => rfl, rfl⟩, fun _ _ _ => rfl, ?_⟩
    · have h2 := hmk x hx
      have h3 := hmk y hy
      exact ⟨.inr ⟨by omega, by omega⟩, .inr ⟨by omega, by omega⟩, rfl⟩
    · exact r9_ok hn hm hm2 hw hl hws q
theorem r15_ok (hn : n ≤ 2) (hw : w.length ≤ 100) (hl : ws.length ≤ 1000) (hws : ∀ x ∈ ws, x.length ≤ 100) (q : Q true) : law_rest1_w15 ws (CV n z) w Q := by
  refine ClD.roll (by decide) (by decide) fun r r0 r1 => ?_
  have hm : 1 ≤ (1 : Int) + r := by omega
  have hm2 : (1 : Int) + r ≤ 1000 := by omega
  have hwl := rsI_len (w := w) hm
  refine ⟨sl (by omega), ⟨by omega, by omega⟩, ?_, fun y _ => ⟨sl (by omega), rfl⟩, ?_⟩
  · rw [List.length_map, List.length_range]; exact sl (by omega)
  show law_rest1_w13 ws (CV n z) w ((1 : Int) + r) (rsI w ((1 : Int) + r)) Q
  refine Cl.here (runs_ok hm hm2 hw ?_)
  refine Cl.here (lunlike_ok (by omega) ?_)
  refine ⟨sl (by rw [srt_len]; have := uq_len (rsI w ((1 : Int) + r)); omega), fun _ _ => rfl, ne_no rfl ?_⟩
  exact r11_ok hn hm hm2 hw hl hws q
end
section
variable {n : Nat} {ws : List Txt} {z : Rws × Whl} {w : Txt} {Q : Bool → Prop}
theorem ST_app (a b : List Txt) : ST n (a ++ b) = ST n a ++ ST n b := List.flatMap_append
theorem r17_ok (hn : n ≤ 2) (h : GM (ST n ws) z) (hw : ∀ x ∈ ws, Wb x) (hl : ws.length ≤ 7) (W : Wb w) (q : Q true) : law_rest1_w17 ws (sz n) (CV n z) w (stp n w) Q := by
  have hn3 : n ≤ 3 := by omega
  have hone : ∀ x ∈ [w], Wb x := fun x hx => by rw [List.mem_singleton.mp hx]; exact W
  have hall : ∀ x ∈ ws ++ [w], Wb x := fun x hx => by
    rcases List.mem_append.mp hx with hx | hx
    · exact hw x hx
    · exact hone x hx
  have l1 := ST_len (n := n) ws hw
  have l2 := ST_len (n := n) [w] hone
  refine Cl.here (init_ok hn3 hone (by show 1 ≤ 20; decide) fun z1 h1 => ?_)
  refine Cl.here (both_ok hn3 h h1 (by omega) (by have : [w].length = 1 := rfl; omega) fun z2 h2 => ?_)
  have sl5 : (stp n w).length ≤ sizeLine := sl (by rw [stp_len]; have := W.l4; omega)
  rw [← ST_app] at h2
  refine ⟨sl5, fun x => cI (pr (ST n (ws ++ [w])) x), fun x _ => Cl.here (share_ok h2 rfl), sl5, fun x => cI (pr (ST n (ws ++ [w])) x), fun x _ => ⟨sl (by show ws.length + 1 ≤ _; omega), Cl.here (init_ok hn3 hall (by rw [List.length_append]; show ws.length + 1 ≤ 20; omega) fun z3 h3 => Cl.here (shareM h3 rfl))⟩, ne_no rfl ?_⟩
  exact r15_ok hn (by have := W.l4; omega) (by omega) (fun x hx => by have := (hw x hx).l4; omega) q
theorem r21_ok (hn : n ≤ 2) (h : GM (ST n ws) z) (hw : ∀ x ∈ ws, Wb x) (hl : ws.length ≤ 7) (W : Wb w) (q : Q true) : law_rest1_w21 ws (sz n) (CV n z) (ST n ws) w (stp n w) Q := by
  refine ClD.roll (by decide) (by decide) fun r r0 r1 => ?_
  obtain ⟨k, rfl⟩ : ∃ k : Nat, r = (k : Int) := ⟨r.toNat, by omega⟩
  have hk : k ≤ 3 := by omega
  have l1 := ST_len (n := n) ws hw
  refine ⟨⟨by omega, by omega⟩, ?_⟩
  show forW ((List.range ((k : Int)).toNat).map fun i : Nat => (i : Int)) [tx ""] _ _
  rw [Int.toNat_natCast]
  have p3 : ∀ {j}, j ≤ 3 → 3 ^ j ≤ 27 := fun h => Nat.le_trans (Nat.pow_le_pow_right (by decide) h) (by decide)
  have cl : ∀ {j}, j ≤ 3 → (cube j).length ≤ 27 := fun h => by rw [cube_len]; exact p3 h
  have wl : ∀ {j}, j ≤ 3 → ∀ v ∈ cube j, v.length ≤ 3 := fun h v hv => by rw [(cube_mem.mp hv).1]; exact h
  refine forR (fun j rows => rows = cube j) rfl (fun j rows hj e nx hnx => ?_) fun rows e => ?_
  · subst e
    refine ⟨sl (by have := cl (j := j) (by omega); omega), fun v hv => ⟨by decide, fun x hx => ⟨?_, rfl⟩, rfl⟩, ?_⟩
    · obtain ⟨c, _, rfl⟩ := List.mem_map.mp hx
      exact sl (by have := wl (j := j) (by omega) v hv; show v.length + 1 ≤ _; omega)
    · refine Cl.here (flat2_ok ?_ (hnx _ rfl))
      have := cl (j := j + 1) (by omega)
      have e : ((cube j).map ext3).flatten = cube (j + 1) := rfl
      show ((cube j).map ext3).flatten.length ≤ _
      rw [e]; omega
  · subst e
    refine Cl.here (made_ok h (by omega) (by omega) (ST_sgl hw) hk ?_)
    refine ⟨sl (by have := cl hk; omega), fun w => decide (((stp n w).filter fun (x : St2) => niL x (ST n ws)).map (fun (x : St2) => x) = ([] : List St2)), fun w => w, fun v hv => ?_, fun _ _ _ => rfl, ne_no ?_ ?_⟩
    · have hv3 := wl hk v hv
      refine Cl.here (lsteps_ok (by omega) (by omega) ?_)
      exact ⟨sl (by rw [stp_len]; omega), fun _ _ => rfl, fun _ _ _ => rfl, rfl⟩
    · rw [List.map_id']
    · exact r17_ok hn h hw hl W q
theorem rest1_ok (hn : n ≤ 2) (h : GM (ST n ws) z) (hw : ∀ x ∈ ws, Wb x) (hl : ws.length ≤ 7) (W : Wb w) (q : Q true) : law_rest1_W (ws, sz n, CV n z, ST n ws, w, stp n w, (stp n w).map (fun x => cI (pr (ST n ws) x)), (stp n w).map (fun x => cI (sm (ST n ws) x)), ()) Q NoE := by
  have l1 := ST_len (n := n) ws hw
  have hw4 := W.l4
  have hM : (ST n ws).length ≤ 35 := by omega
  have sl5 : (stp n w).length ≤ 5 := by rw [stp_len]; omega
  generalize hS : (stp n w).map (fun x => cI (sm (ST n ws) x)) = S
  have hSl : S.length ≤ 5 := by rw [← hS, List.length_map]; exact sl5
  have hSp : ∀ x ∈ S, (0 < x.2 ∧ x.2 ≤ 1000) ∧ 0 ≤ x.1 ∧ x.1 ≤ 1000 := fun x hx => by
    rw [← hS] at hx
    obtain ⟨y, _, rfl⟩ := List.mem_map.mp hx
    have h1 := cnt_le (ST n ws) y
    have h2 := cSn_le (ST n ws) y.1
    show (0 < ((cSn (ST n ws) y.1 + 27 : Nat) : Int) ∧ ((cSn (ST n ws) y.1 + 27 : Nat) : Int) ≤ 1000) ∧ 0 ≤ ((cnt (ST n ws) y + 1 : Nat) : Int) ∧ ((cnt (ST n ws) y + 1 : Nat) : Int) ≤ 1000
    omega
  have hix : ∀ k ∈ rng S.length, inR S.length k ∧ ixD S k ∈ S := fun k hk => by
    obtain ⟨k0, k1⟩ := rng_mem.mp hk
    exact ⟨⟨by omega, k1⟩, ixD_mem k0 k1⟩
  refine ⟨⟨by show -(2 ^ 62) ≤ (S.length : Int); omega, by show (S.length : Int) < 2 ^ 62; omega⟩, ?_, ?_, fun _ _ _ => rfl, ?_⟩
  · rw [List.length_map, List.length_range]; exact sl (by show ((S.length : Int)).toNat ≤ _; omega)
  · show ∀ x9 ∈ rng S.length, _
    intro k hk
    obtain ⟨i1, i2⟩ := hix k hk
    refine ⟨sl (by show S.length ≤ _; omega), fun x hx => ?_, fun _ _ _ => rfl, rfl⟩
    have h1 := hSp _ i2
    have h2 := hSp x hx
    exact ⟨i1, .inr ⟨by show -(2 ^ 64) < (ixD S k).2; omega, by show (ixD S k).2 < 2 ^ 64; omega⟩, i1, .inr ⟨by omega, by omega⟩, rfl⟩
  show law_rest1_w22 ws (sz n) (CV n z) (ST n ws) w (stp n w) ((stp n w).map (fun x => cI (pr (ST n ws) x))) (worst S) Q
  refine Cl.here (strangest_ok h (by omega) hw4 hM fun b r e => ?_)
  rw [hS] at e
  rw [e]
  refine ⟨ir (k := 0) rfl (Nat.succ_pos _), ne_no rfl ?_⟩
  refine Cl.here (unseen_ok h (by omega) hw4 ?_)
  generalize hP : (stp n w).map (fun x => cI (pr (ST n ws) x)) = P
  have hPl : P.length ≤ 5 := by rw [← hP, List.length_map]; exact sl5
  refine ⟨⟨by omega, by omega⟩, ?_, ?_, fun _ _ _ => rfl, ne_no rfl ?_⟩
  · rw [List.length_map, List.length_range]; exact sl (by omega)
  · show ∀ x14 ∈ rng P.length, _
    intro k hk
    obtain ⟨k0, k1⟩ := rng_mem.mp hk
    exact ⟨⟨by omega, k1⟩, rfl⟩
  · exact r21_ok hn h hw hl W q
theorem rest2_ok (hn : n ≤ 2) (h : GM (ST n ws) z) (hw : ∀ x ∈ ws, Wb x) (hl : ws.length ≤ 7) (W : Wb w) (q : Q true) : law_rest2_W (ws, sz n, CV n z, ST n ws, w, stp n w, (stp n w).map (fun x => cI (pr (ST n ws) x)), (stp n w).map (fun x => cI (sm (ST n ws) x)), ()) Q NoE := by
  have hn3 : n ≤ 3 := by omega
  have l1 := ST_len (n := n) ws hw
  have hMl : (ST n ws).length ≤ sizeLine := sl (by omega)
  refine ClD.here (lword_ok (ls := tx "abc") (lo := 0) (hi := 3) (by decide) (by decide) (by decide) (by decide) (by decide) fun s hs s0 s1 => ?_)
  refine ⟨run_cond hn3 (by omega), fun _ => rfl, ?_⟩
  show law_rest2_w12 ws (sz n) (CV n z) (ST n ws) w (stp n w) _ _ s (if (decide ((1 : Int) < sz n)) = true then (cutD ((repS (tx ".") (sz n)) ++ s) (some ((s.length : Int) + (1 : Int))) none) else (tx "")) Q
  rw [run_law]
  refine ⟨hMl, fun _ _ => rfl, fun _ _ _ => rfl, ?_⟩
  show law_rest2_w11 ws (sz n) (CV n z) (ST n ws) w (stp n w) _ _ s (rnw n s) (sig (ST n ws) (rnw n s)) Q
  have hsl : (sig (ST n ws) (rnw n s)).length ≤ 100 := by
    unfold sig
    rw [List.length_map]
    exact Nat.le_trans (List.length_filter_le _ _) (by omega)
  refine Cl.here (lunlike_ok (by omega) ?_)
  have ul := uq_len (sig (ST n ws) (rnw n s))
  refine ⟨sl (by rw [srt_len]; omega), fun _ _ => rfl, ?_⟩
  show law_rest2_w10 ws (sz n) (CV n z) (ST n ws) w (stp n w) _ _ s (rnw n s) (sig (ST n ws) (rnw n s)) (due (sig (ST n ws) (rnw n s))) Q
  refine Cl.here (next_ok h hn3 (by omega) ?_)
  refine ⟨sl (by unfold due; rw [srt_len, List.length_map, srt_len]; omega), fun _ _ => rfl, ne_no rfl ?_⟩
  show law_rest2_w8 ws (sz n) (CV n z) (ST n ws) w (stp n w) _ _ (rnw n s) (sig (ST n ws) (rnw n s)) (tx "", tx "no way") Q
  refine ⟨by decide, loop_ok hn3 (by omega) (ST_sgl hw) fun y hy => ?_⟩
  rw [hy]
  have fin : ∀ t : Txt, (t = if (decide (ws ≠ ([] : List Txt))) = true then tol n (ST n ws) 7 else (tx "no way")) → (((decide (ws ≠ ([] : List Txt))) = true → tol n (ST n ws) 7 = tol n (ST n ws) 7) ∧ ((decide (ws ≠ ([] : List Txt))) = false → (tx "no way" : Txt) = (tx "no way")) ∧ (((decide (t ≠ (if (decide (ws ≠ ([] : List Txt))) = true then tol n (ST n ws) 7 else (tx "no way")))) = true → Q false) ∧ ((decide (t ≠ (if (decide (ws ≠ ([] : List Txt))) = true then tol n (ST n ws) 7 else (tx "no way")))) = false → law_rest2_w6 ws (sz n) (CV n z) (ST n ws) w (stp n w) ((stp n w).map (fun x => cI (pr (ST n ws) x))) ((stp n w).map (fun x => cI (sm (ST n ws) x))) Q))) := fun t ht =>
    ⟨fun _ => rfl, fun _ => rfl, ne_no ht (ClD.here (rest1_ok hn h hw hl W (nt_ rfl q)))⟩
  refine Cl.here (likeliest_ok h hn3 hw (fun hne _ => fin _ ?_) fun he => ⟨_, rfl, fin _ ?_⟩)
  · rw [if_pos (decide_eq_true hne)]
  · by_cases hne : ws ≠ []
    · rw [if_pos (decide_eq_true hne), he hne]
    · rw [if_neg (by rw [decide_eq_true_eq]; exact hne)]
end
section
variable {n : Nat} {ws : List Txt} {z : Rws × Whl} {w v : Txt}
theorem steps_sh (hM : (ST n ws).length ≤ 35) (l : List St2) : (∀ x ∈ l.map (pr (ST n ws)), x.1 ≤ 1000 ∧ x.2 ≤ 1000) ∧ ∀ x ∈ l.map (sm (ST n ws)), x.1 ≤ 1000 ∧ x.2 ≤ 1000 := by
  refine ⟨fun x hx => ?_, fun x hx => ?_⟩ <;>
  · obtain ⟨y, _, rfl⟩ := List.mem_map.mp hx
    have h1 := cnt_le (ST n ws) y
    have h2 := cSn_le (ST n ws) y.1
    first
    | (show cnt (ST n ws) y ≤ 1000 ∧ cSn (ST n ws) y.1 ≤ 1000; omega)
    | (show cnt (ST n ws) y + 1 ≤ 1000 ∧ cSn (ST n ws) y.1 + 27 ≤ 1000; omega)
theorem pB_bd {l : List NP} (h : ∀ x ∈ l, x.2 ≤ 62) (hl : l.length ≤ 5) : pB l ≤ 1000000000 := Nat.le_trans (pB_le l h) (Nat.le_trans (Nat.pow_le_pow_right (by decide) hl) (by decide))
theorem rest_ok (hn : n ≤ 2) (h : GM (ST n ws) z) (hw : ∀ x ∈ ws, Wb x) (hl : ws.length ≤ 7) (W : Wb w) (V : Wb v) : law_w13 (ws, sz n) (CV n z, ST n ws) w v (fun b => b = true) NoE := by
  have hn3 : n ≤ 3 := by omega
  have l1 := ST_len (n := n) ws hw
  have hM : (ST n ws).length ≤ 35 := by omega
  have hw4 := W.l4
  have hv4 := V.l4
  have sl5 : (stp n w).length ≤ 5 := by rw [stp_len]; omega
  have sv5 : (stp n v).length ≤ 5 := by rw [stp_len]; omega
  have hMl : (ST n ws).length ≤ sizeLine := sl (by omega)
  have hpr : ∀ l : List St2, ∀ x ∈ l.map (pr (ST n ws)), x.2 ≤ 62 := fun l x hx => by
    obtain ⟨y, _, rfl⟩ := List.mem_map.mp hx
    exact Nat.le_trans (cSn_le (ST n ws) y.1) (by omega)
  have hsm : ∀ l : List St2, ∀ x ∈ l.map (sm (ST n ws)), x.2 ≤ 62 := fun l x hx => by
    obtain ⟨y, _, rfl⟩ := List.mem_map.mp hx
    show cSn (ST n ws) y.1 + 27 ≤ 62
    have := cSn_le (ST n ws) y.1
    omega
  refine Cl.here (lsteps_ok hn3 (by omega) ?_)
  refine Cl.here (steps_ok rfl hn3 (by omega) (ne_no rfl ?_))
  refine ⟨sl (by omega), fun _ _ => ⟨hMl, fun _ _ => rfl, fun _ _ _ => rfl, rfl⟩, ?_⟩
  show law_w10 (ws, sz n) (CV n z, ST n ws) w v (stp n w) ((stp n w).map fun x => cI (pr (ST n ws) x)) _ NoE
  refine ⟨sl (by omega), fun x => cI (pr (ST n ws) x), fun x _ => Cl.here (shareM h rfl), ne_no rfl ?_⟩
  refine ⟨sl (by rw [List.length_map]; omega), fun _ _ => rfl, ?_⟩
  have esm : (((stp n w).map fun x => cI (pr (ST n ws) x)).map (fun (x31 : (Int × Int)) => ((x31.1 + (1 : Int)), (x31.2 + (27 : Int))))) = (stp n w).map fun x => cI (sm (ST n ws) x) := by
    rw [List.map_map]
    refine List.map_congr_left fun x _ => ?_
    show ((((cnt (ST n ws) x : Nat) : Int) + 1), (((cSn (ST n ws) x.1 : Nat) : Int) + 27)) = (((cnt (ST n ws) x + 1 : Nat) : Int), ((cSn (ST n ws) x.1 + 27 : Nat) : Int))
    rw [Int.natCast_add, Int.natCast_add]
    rfl
  show law_w8 (ws, sz n) (CV n z, ST n ws) w v (stp n w) ((stp n w).map fun x => cI (pr (ST n ws) x)) (((stp n w).map fun x => cI (pr (ST n ws) x)).map (fun (x31 : (Int × Int)) => ((x31.1 + (1 : Int)), (x31.2 + (27 : Int))))) _ NoE
  rw [esm]
  refine ⟨sl (by omega), fun x => cI (sm (ST n ws) x), fun x _ => Cl.here (smoothM h rfl), ne_no rfl ?_⟩
  have emp : (stp n w).map (fun x => cI (pr (ST n ws) x)) = ((stp n w).map (pr (ST n ws))).map cI := by rw [List.map_map]; rfl
  have ems : ∀ l : List St2, l.map (fun x => cI (sm (ST n ws) x)) = (l.map (sm (ST n ws))).map cI := fun l => by rw [List.map_map]; rfl
  -- what follows the chances
  have w5 : law_w5 (ws, sz n) (CV n z, ST n ws) w v (stp n w) ((stp n w).map fun x => cI (pr (ST n ws) x)) ((stp n w).map fun x => cI (sm (ST n ws) x)) (fun b => b = true) NoE := by
    show Cl (law_product_W ((stp n w).map (fun x => cI (sm (ST n ws) x)), ())) _ NoE
    rw [ems]
    refine Cl.here (prod_ok (steps_sh hM (stp n w)).2 ?_)
    rw [← ems]
    refine Cl.here (smch_ok h hn3 hw4 hM fun t b hL hb => ?_)
    refine Cl.here (same_ok hL (by omega) (Nat.le_trans (pB_bd (hsm _) (by rw [List.length_map]; exact sl5)) (by decide)) (nt_ rfl ?_))
    refine Cl.here (lsteps_ok hn3 (by omega) ?_)
    refine ⟨sl (by omega), fun _ _ => ⟨hMl, fun _ _ => rfl, fun _ _ _ => rfl, rfl⟩, ?_⟩
    have e3 : ((stp n v).map (fun (x49 : (Txt × Txt)) => (((cnt (ST n ws) x49 : Int) + (1 : Int)), ((List.length (((ST n ws).filter (fun (x50 : (Txt × Txt)) => (decide (x50.1 = x49.1)))).map (fun (x50 : (Txt × Txt)) => x50)) : Int) + (27 : Int))))) = ((stp n v).map (sm (ST n ws))).map cI := by
      rw [List.map_map]
      refine List.map_congr_left fun x _ => ?_
      show ((((cnt (ST n ws) x : Nat) : Int) + 1), (((cSn (ST n ws) x.1 : Nat) : Int) + 27)) = (((cnt (ST n ws) x + 1 : Nat) : Int), ((cSn (ST n ws) x.1 + 27 : Nat) : Int))
      rw [Int.natCast_add, Int.natCast_add]
      rfl
    show Cl (law_product_W ((stp n v).map (fun (x49 : (Txt × Txt)) => (((cnt (ST n ws) x49 : Int) + (1 : Int)), ((List.length (((ST n ws).filter (fun (x50 : (Txt × Txt)) => (decide (x50.1 = x49.1)))).map (fun (x50 : (Txt × Txt)) => x50)) : Int) + (27 : Int)))), ())) _ NoE
    rw [e3]
    refine Cl.here (prod_ok (steps_sh hM (stp n v)).2 ?_)
    have b1 := pB_bd (hsm (stp n w)) (by rw [List.length_map]; exact sl5)
    have b2 := pB_bd (hsm (stp n v)) (by rw [List.length_map]; exact sv5)
    refine Cl.here (likelier_ok h hn3 hw4 hv4 hM ?_)
    refine ⟨small (by omega) _, small (by omega) _, fun _ => rfl, fun _ => rfl, ne_no rfl ?_⟩
    exact ClD.here (rest2_ok hn h hw hl W (nt_ rfl rfl))
  show Cl (law_product_W ((stp n w).map (fun x => cI (pr (ST n ws) x)), ())) _ NoE
  rw [emp]
  refine Cl.here (prod_ok (steps_sh hM (stp n w)).1 ?_)
  rw [← emp]
  by_cases hz : pA ((stp n w).map (pr (ST n ws))) = 0
  · refine yes_ (decide_eq_true (by show ((pA _ : Nat) : Int) = 0; rw [hz]; rfl)) ?_
    refine Cl.here (chance_ok h hn3 hw4 hM (fun _ => nt_ (by decide) w5) fun g => absurd hz g)
  · refine no_ (decide_eq_false (by show ¬ ((pA _ : Nat) : Int) = 0; omega)) ?_
    refine Cl.here (chance_ok h hn3 hw4 hM (fun g => absurd g hz) fun _ t b hL hb => ?_)
    exact Cl.here (same_ok hL (by omega) (Nat.le_trans (pB_bd (hpr _) (by rw [List.length_map]; exact sl5)) (by decide)) (nt_ rfl w5))
end
theorem Wb.of {y : Txt} (h : ∀ c ∈ y, c ∈ (tx "abc" : Txt)) (h1 : (1 : Int) ≤ y.length) (h4 : (y.length : Int) ≤ 4) : Wb y := ⟨h, by omega, by omega⟩
theorem plain (ns : List Int) : law_W (ns, ()) (fun b => b = true) NoE := by
  show law_w16 (fun b => b = true) NoE
  refine ClD.roll (by decide) (by decide) fun r r0 r1 => ⟨⟨by omega, by omega⟩, sl (by rw [List.length_map, List.length_range]; omega), fun _ y => Wb y, fun x _ => ?_, fun ys hy => ?_⟩
  · exact ClD.here (lword_ok (ls := tx "abc") (lo := 1) (hi := 4) (by decide) (by decide) (by decide) (by decide) (by decide) fun y hy y1 y4 => Wb.of hy y1 y4)
  have hyl := hy.length
  rw [List.length_map, List.length_range] at hyl
  have hl : ys.length ≤ 7 := by omega
  have hw := hy.all (R := Wb) fun _ _ _ h => h
  refine ClD.roll (by decide) (by decide) fun s s0 s1 => ?_
  obtain ⟨n, rfl⟩ : ∃ n : Nat, s = (n : Int) := ⟨s.toNat, by omega⟩
  have hn : n ≤ 2 := by omega
  rw [show (1 : Int) + (n : Int) = sz n from Int.add_comm _ _]
  refine Cl.here (init_ok (by omega) hw (show ys.length ≤ 20 by omega) fun z h => ?_)
  have l1 := ST_len (n := n) ys hw
  refine ⟨sl (by show ys.length ≤ _; omega), stp n, fun x hx => Cl.here (lsteps_ok (by omega) (by have := (hw x hx).l4; omega) rfl), ?_⟩
  have e : (ys.map (stp n)).flatten = ST n ys := (List.flatMap_def ..).symm
  show Cl (law_flat_W (ys.map (stp n), ())) _ NoE
  refine Cl.here (flat_ok (by rw [e]; omega) ?_)
  rw [e]
  refine ClD.here (lword_ok (ls := tx "abc") (lo := 1) (hi := 4) (by decide) (by decide) (by decide) (by decide) (by decide) fun w hww w1 w4 => ?_)
  refine ClD.here (lword_ok (ls := tx "abc") (lo := 1) (hi := 4) (by decide) (by decide) (by decide) (by decide) (by decide) fun v hvv v1 v4 => ?_)
  exact rest_ok hn h hw hl (Wb.of hww w1 w4) (Wb.of hvv v1 v4)
end K08
theorem PySem.Challenge.cw_spellhall_k08_grams_holds : PySem.Challenge.rw_spellhall_k08_grams.Holds :=
  K08.holds_of fun ns _ _ => by first | exact K08.plain ns | exact K08.plain
