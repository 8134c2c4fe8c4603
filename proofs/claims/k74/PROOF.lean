import PyProof.Rows.All
import Wide.All
import OpenK.AllK
import Wide.FinOn
import HandS.ForMost
import HandS.Exc
import HandS.TryOnly
import HandS.TryMany
import HandS.ExcOwn
import HandS.WordsExc
import HandS.IsInst
import HandS.ExcIs
import HandS.Deep
import HandS.Style
import PySem.Challenge.RW_evenpieces_k74_moves_as_texts
set_option Elab.async false
set_option linter.all false
set_option maxRecDepth 100000
set_option maxHeartbeats 4000000

/-! DL: a second layer over HandS. Values are trees (D); what may still change stands in a store of cells (Mu); what is settled stands in a hidden ground G. -/
namespace DL
open PySem PySem.Spec PyProof.Rows L2

inductive D where
  | non | bl (b : Bool) | int (i : Int) | str (x : Str) | ty (n : String) | ref (a : Addr) | cell (i : Nat)
  | tup (xs : List D) | lst (xs : List D) | lsk (xs : List D) | dic (kvs : List (Key × D)) | obj (a C : Addr) (fs : List (Str × D))
inductive MO where
  | gone | lst (xs : List D) | dic (kvs : List (Key × D)) | dit (kvs : List (List Key × D)) | ins (C : Addr) (fs : List (Str × D))
abbrev Mu := List MO
abbrev Rho := List (Option D)

mutual
/-- the value v is the tree d, over the ground G and the cells' addresses as -/
inductive Dat (K : PySem.W.Frag) (G : Hp) (as : List Addr) : V → D → Prop
  | non : Dat K G as .non .non
  | bl (b : Bool) : Dat K G as (.bl b) (.bl b)
  | int (i : Int) : Dat K G as (.int i) (.int i)
  | str (x : Str) : Dat K G as (.str x) (.str x)
  | ty (n : String) : Dat K G as (.ty n) (.ty n)
  | ref (a : Addr) : Dat K G as (.ref a) (.ref a)
  | cell {a : Addr} {i : Nat} (h : as[i]? = some a) : Dat K G as (.ref a) (.cell i)
  | tup {p : Addr} {vs : List V} {ds : List D} (h : SqT K G p vs) (hs : Dats K G as vs ds) : Dat K G as (.ref p) (.tup ds)
  | lst {p : Addr} {vs : List V} {ds : List D} (h : G p = some (.lst vs)) (hs : Dats K G as vs ds) : Dat K G as (.ref p) (.lst ds)
  | lsk {p : Addr} {vs : List V} {ds : List D} (h : SqL K G p vs) (hs : Dats K G as vs ds) : Dat K G as (.ref p) (.lsk ds)
  | dic {p : Addr} {vs : List (Key × V)} {ds : List (Key × D)} (h : Rd G p (.dK vs)) (hs : DatK K G as vs ds) : Dat K G as (.ref p) (.dic ds)
  | obj {p C dx : Addr} {vs : List (Str × V)} {ds : List (Str × D)} (h : G p = some (.ins C dx vs)) (hs : DatF K G as vs ds) : Dat K G as (.ref p) (.obj p C ds)
inductive Dats (K : PySem.W.Frag) (G : Hp) (as : List Addr) : List V → List D → Prop
  | nil : Dats K G as [] []
  | cons {v : V} {d : D} {vs : List V} {ds : List D} (h : Dat K G as v d) (t : Dats K G as vs ds) : Dats K G as (v :: vs) (d :: ds)
inductive DatK (K : PySem.W.Frag) (G : Hp) (as : List Addr) : List (Key × V) → List (Key × D) → Prop
  | nil : DatK K G as [] []
  | cons {k : Key} {v : V} {d : D} {vs : List (Key × V)} {ds : List (Key × D)} (h : Dat K G as v d) (t : DatK K G as vs ds) : DatK K G as ((k, v) :: vs) ((k, d) :: ds)
inductive DatF (K : PySem.W.Frag) (G : Hp) (as : List Addr) : List (Str × V) → List (Str × D) → Prop
  | nil : DatF K G as [] []
  | cons {k : Str} {v : V} {d : D} {vs : List (Str × V)} {ds : List (Str × D)} (h : Dat K G as v d) (t : DatF K G as vs ds) : DatF K G as ((k, v) :: vs) ((k, d) :: ds)
end

theorem Same.rd {G G' : Hp} (s : Same G G') {a : Addr} {u : HO} (h : Rd G a u) : Rd G' a u := by
  rcases h with h | ⟨o, h⟩
  · exact .inl (s _ _ h)
  · exact .inr ⟨o, s _ _ h⟩
theorem Same.sqT {K : PySem.W.Frag} {G G' : Hp} (s : Same G G') {a : Addr} {xs : List V} (h : SqT K G a xs) : SqT K G' a xs := by
  rcases h with h | h
  · exact .inl (Same.rd s h)
  · exact .inr h
/-- how the ground and the cells grow -/
structure Gr (G : Hp) (as : List Addr) (G' : Hp) (as' : List Addr) : Prop where
  same : Same G G'
  pre : as <+: as'
theorem Gr.refl (G : Hp) (as : List Addr) : Gr G as G as := ⟨Same.refl G, List.prefix_refl as⟩
theorem Gr.trans {G G1 G2 : Hp} {as as1 as2 : List Addr} (a : Gr G as G1 as1) (b : Gr G1 as1 G2 as2) : Gr G as G2 as2 := ⟨a.same.trans b.same, List.IsPrefix.trans a.pre b.pre⟩
theorem pre_get {as as' : List Addr} (h : as <+: as') {i : Nat} {a : Addr} (e : as[i]? = some a) : as'[i]? = some a := by
  obtain ⟨r, rfl⟩ := h
  rw [List.getElem?_append_left (List.getElem?_eq_some_iff.mp e).1]
  exact e
mutual
theorem Dat.mono {K : PySem.W.Frag} {G G' : Hp} {as as' : List Addr} (g : Gr G as G' as') : ∀ {v : V} {d : D}, Dat K G as v d → Dat K G' as' v d
  | _, _, .non => .non
  | _, _, .bl b => .bl b
  | _, _, .int i => .int i
  | _, _, .str x => .str x
  | _, _, .ty n => .ty n
  | _, _, .ref a => .ref a
  | _, _, .cell h => .cell (pre_get g.pre h)
  | _, _, .tup h hs => .tup (Same.sqT g.same h) (Dats.mono g hs)
  | _, _, .lst h hs => .lst (g.same _ _ h) (Dats.mono g hs)
  | _, _, .lsk h hs => .lsk (g.same.seq h) (Dats.mono g hs)
  | _, _, .dic h hs => .dic (Same.rd g.same h) (DatK.mono g hs)
  | _, _, .obj h hs => .obj (g.same _ _ h) (DatF.mono g hs)
theorem Dats.mono {K : PySem.W.Frag} {G G' : Hp} {as as' : List Addr} (g : Gr G as G' as') : ∀ {v : List V} {d : List D}, Dats K G as v d → Dats K G' as' v d
  | _, _, .nil => .nil
  | _, _, .cons h t => .cons (Dat.mono g h) (Dats.mono g t)
theorem DatK.mono {K : PySem.W.Frag} {G G' : Hp} {as as' : List Addr} (g : Gr G as G' as') : ∀ {v : List (Key × V)} {d : List (Key × D)}, DatK K G as v d → DatK K G' as' v d
  | _, _, .nil => .nil
  | _, _, .cons h t => .cons (Dat.mono g h) (DatK.mono g t)
theorem DatF.mono {K : PySem.W.Frag} {G G' : Hp} {as as' : List Addr} (g : Gr G as G' as') : ∀ {v : List (Str × V)} {d : List (Str × D)}, DatF K G as v d → DatF K G' as' v d
  | _, _, .nil => .nil
  | _, _, .cons h t => .cons (Dat.mono g h) (DatF.mono g t)
end

/-- what a cell holds -/
def MOk (K : PySem.W.Frag) (G : Hp) (as : List Addr) : MO → Option HO → Prop
  | .gone, _ => True
  | .lst ds, o => ∃ vs, o = some (.lst vs) ∧ Dats K G as vs ds
  | .dic ds, o => ∃ vs, o = some (.dK vs) ∧ DatK K G as vs ds
  | .dit ds, o => ∃ vs : List (List Key × V), o = some (.dT vs) ∧ vs.map (·.1) = ds.map (·.1) ∧ Dats K G as (vs.map (·.2)) (ds.map (·.2))
  | .ins C fs, o => ∃ dx vs, o = some (.ins C dx vs) ∧ DatF K G as vs fs
theorem MOk.mono {K : PySem.W.Frag} {G G' : Hp} {as as' : List Addr} (g : Gr G as G' as') : ∀ {m : MO} {o : Option HO}, MOk K G as m o → MOk K G' as' m o
  | .gone, _, _ => trivial
  | .lst _, _, ⟨vs, e, h⟩ => ⟨vs, e, h.mono g⟩
  | .dic _, _, ⟨vs, e, h⟩ => ⟨vs, e, h.mono g⟩
  | .dit _, _, ⟨vs, e, k, h⟩ => ⟨vs, e, k, h.mono g⟩
  | .ins _ _, _, ⟨dx, vs, e, h⟩ => ⟨dx, vs, e, h.mono g⟩
/-- the abstract heap H: the ground G, and beside it the cells -/
structure Rep (K : PySem.W.Frag) (Φ : Hp) (G : Hp) (as : List Addr) (μ : Mu) (H : Hp) : Prop where
  same : Same G H
  len : as.length = μ.length
  nd : as.Nodup
  there : ∀ a ∈ as, H a ≠ none
  fr : Same Φ H
  frG : ∀ (a : Addr) (o : HO), Φ a = some o → G a = none
  frA : ∀ a ∈ as, Φ a = none
  ok : ∀ (i : Nat) (a : Addr) (m : MO), as[i]? = some a → μ[i]? = some m → m ≠ .gone → G a = none ∧ MOk K G as m (H a)
/-- the slots -/
structure SRel (K : PySem.W.Frag) (G : Hp) (as : List Addr) (σ : L2.St) (ρ : Rho) : Prop where
  len : σ.length = ρ.length
  at' : ∀ (i : Nat) (d : D), ρ[i]? = some (some d) → ∃ v, σ[i]? = some (some v) ∧ Dat K G as v d
theorem SRel.mono {K : PySem.W.Frag} {G G' : Hp} {as as' : List Addr} {σ : L2.St} {ρ : Rho} (r : SRel K G as σ ρ) (g : Gr G as G' as') : SRel K G' as' σ ρ :=
  ⟨r.len, fun i d e => let ⟨v, h1, h2⟩ := r.at' i d e; ⟨v, h1, h2.mono g⟩⟩
theorem SRel.set {K : PySem.W.Frag} {G : Hp} {as : List Addr} {σ : L2.St} {ρ : Rho} (r : SRel K G as σ ρ) (i : Nat) {v : V} {d : D} (h : Dat K G as v d) : SRel K G as (σ.set i (some v)) (ρ.set i (some d)) := by
  refine ⟨by simp [r.len], fun j e q => ?_⟩
  rw [List.getElem?_set] at q
  by_cases hij : i = j
  · subst hij
    by_cases hl : i < ρ.length
    · rw [if_pos rfl, if_pos hl] at q
      cases q
      exact ⟨v, by rw [List.getElem?_set, if_pos rfl, if_pos (by rw [r.len]; exact hl)], h⟩
    · rw [if_pos rfl, if_neg hl] at q
      cases q
  · rw [if_neg hij] at q
    obtain ⟨w, h1, h2⟩ := r.at' j e q
    exact ⟨w, by rw [List.getElem?_set, if_neg hij]; exact h1, h2⟩
theorem SRel.setN {K : PySem.W.Frag} {G : Hp} {as : List Addr} {σ : L2.St} {ρ : Rho} (r : SRel K G as σ ρ) (i : Nat) : SRel K G as (σ.set i none) (ρ.set i none) := by
  refine ⟨by simp [r.len], fun j e q => ?_⟩
  rw [List.getElem?_set] at q
  by_cases hij : i = j
  · subst hij
    rw [if_pos rfl] at q
    split at q <;> cases q
  · rw [if_neg hij] at q
    obtain ⟨w, h1, h2⟩ := r.at' j e q
    exact ⟨w, by rw [List.getElem?_set, if_neg hij]; exact h1, h2⟩
/-- forgetting slots -/
theorem SRel.forget {K : PySem.W.Frag} {G : Hp} {as : List Addr} {σ : L2.St} {ρ ρ' : Rho} (r : SRel K G as σ ρ) (hl : ρ'.length = ρ.length) (h : ∀ (i : Nat) (d : D), ρ'[i]? = some (some d) → ρ[i]? = some (some d)) : SRel K G as σ ρ' :=
  ⟨r.len.trans hl.symm, fun i d e => r.at' i d (h i d e)⟩

/-! ### readings over trees -/
/-- an error: its class, its fields where it has any -/
structure Exn where
  cls : Value
  flds : Option (List (Str × D)) := none
def ExnR (K : PySem.W.Frag) (G : Hp) (as : List Addr) (H : Hp) (x : Exn) (cls : Value) (dx : Option Addr) : Prop :=
  cls = x.cls ∧ match x.flds with
    | none => dx = none
    | some fs => ∃ d vs, dx = some d ∧ H d = some (.xd vs) ∧ DatF K G as vs fs
abbrev DQ := D → Mu → Prop
abbrev DX := Exn → Mu → Prop
abbrev DTE := Rho → Mu → DQ → DX → Prop
abbrev DTT := Rho → Mu → (Bool → Mu → Prop) → DX → Prop
abbrev DTA := Rho → Mu → (List D → Mu → Prop) → DX → Prop
structure DEnds where
  lo : Nat
  nx : Rho → Mu → Prop
  rt : DQ
  ex : Exn → Rho → Mu → Prop
  bk : Rho → Mu → Prop := fun _ _ => False
  ct : Rho → Mu → Prop := fun _ _ => False
abbrev DTS := DEnds → Rho → Mu → Prop

/-- what is wanted of an exception, lifted -/
def LX (K : PySem.W.Frag) (W : WX) (Φ : Hp) (G : Hp) (as : List Addr) (σ : L2.St) (Ex : DX) : Prop :=
  ∀ (G' : Hp) (as' : List Addr) (μ' : Mu) (H' : Hp) (x : Exn) (cls : Value) (dx : Option Addr), Gr G as G' as' → Rep K Φ G' as' μ' H' → ExnR K G' as' H' x cls dx → Ex x μ' → W cls dx σ H'
theorem LX.mono {K : PySem.W.Frag} {W : WX} {Φ G G1 : Hp} {as as1 : List Addr} {σ : L2.St} {Ex : DX} (x : LX K W Φ G as σ Ex) (g : Gr G as G1 as1) : LX K W Φ G1 as1 σ Ex :=
  fun G' as' μ' H' y cls dx g' r er e => x G' as' μ' H' y cls dx (g.trans g') r er e
def up (K : PySem.W.Frag) (W : WX) (dt : DTE) : TE := fun σ H R => ∃ (Φ : Hp) (ρ : Rho) (G : Hp) (as : List Addr) (μ : Mu) (Q : DQ) (Ex : DX), SRel K G as σ ρ ∧ Rep K Φ G as μ H ∧ dt ρ μ Q Ex ∧ LX K W Φ G as σ Ex ∧
  ∀ (G' : Hp) (as' : List Addr) (μ' : Mu) (H' : Hp) (v : V) (d : D), Gr G as G' as' → Rep K Φ G' as' μ' H' → Dat K G' as' v d → Q d μ' → R v H'
def upT (K : PySem.W.Frag) (W : WX) (dt : DTT) : TT := fun σ H R => ∃ (Φ : Hp) (ρ : Rho) (G : Hp) (as : List Addr) (μ : Mu) (Q : Bool → Mu → Prop) (Ex : DX), SRel K G as σ ρ ∧ Rep K Φ G as μ H ∧ dt ρ μ Q Ex ∧ LX K W Φ G as σ Ex ∧
  ∀ (G' : Hp) (as' : List Addr) (μ' : Mu) (H' : Hp) (b : Bool), Gr G as G' as' → Rep K Φ G' as' μ' H' → Q b μ' → R b H'
def upA (K : PySem.W.Frag) (W : WX) (dt : DTA) : TA := fun σ H R => ∃ (Φ : Hp) (ρ : Rho) (G : Hp) (as : List Addr) (μ : Mu) (Q : List D → Mu → Prop) (Ex : DX), SRel K G as σ ρ ∧ Rep K Φ G as μ H ∧ dt ρ μ Q Ex ∧ LX K W Φ G as σ Ex ∧
  ∀ (G' : Hp) (as' : List Addr) (μ' : Mu) (H' : Hp) (vs : List V) (ds : List D), Gr G as G' as' → Rep K Φ G' as' μ' H' → Dats K G' as' vs ds → Q ds μ' → R vs H'
structure LEnds (K : PySem.W.Frag) (W : WX) (Φ : Hp) (G : Hp) (as : List Addr) (DE : DEnds) (E : Ends) : Prop where
  lo : as.length = DE.lo
  nx : ∀ (G' : Hp) (as' : List Addr) (μ' : Mu) (H' : Hp) (σ' : L2.St) (ρ' : Rho), Gr G as G' as' → Rep K Φ G' as' μ' H' → SRel K G' as' σ' ρ' → DE.nx ρ' μ' → E.nx σ' H'
  rt : ∀ (G' : Hp) (as' : List Addr) (μ' : Mu) (H' : Hp) (v : V) (d : D), Gr G as G' as' → Rep K Φ G' as' μ' H' → Dat K G' as' v d → DE.rt d μ' → E.rt v H'
  ex : ∀ (G' : Hp) (as' : List Addr) (μ' : Mu) (H' : Hp) (σ' : L2.St) (ρ' : Rho) (x : Exn) (cls : Value) (dx : Option Addr), Gr G as G' as' → Rep K Φ G' as' μ' H' → SRel K G' as' σ' ρ' → ExnR K G' as' H' x cls dx → DE.ex x ρ' μ' → W cls dx σ' H'
  bk : ∀ (G' : Hp) (as' : List Addr) (μ' : Mu) (H' : Hp) (σ' : L2.St) (ρ' : Rho), Gr G as G' as' → Rep K Φ G' as' μ' H' → SRel K G' as' σ' ρ' → DE.bk ρ' μ' → E.bk σ' H'
  ct : ∀ (G' : Hp) (as' : List Addr) (μ' : Mu) (H' : Hp) (σ' : L2.St) (ρ' : Rho), Gr G as G' as' → Rep K Φ G' as' μ' H' → SRel K G' as' σ' ρ' → DE.ct ρ' μ' → E.ct σ' H'
theorem LEnds.lxg {K : PySem.W.Frag} {W : WX} {Φ G0 G : Hp} {as0 as : List Addr} {DE : DEnds} {E : Ends} (x : LEnds K W Φ G0 as0 DE E) (g : Gr G0 as0 G as) {σ : L2.St} {ρ : Rho} (sr : SRel K G as σ ρ) : LX K W Φ G as σ (fun cls μ => DE.ex cls ρ μ) :=
  fun G' as' μ' H' y cls dx g' r er e => x.ex G' as' μ' H' σ ρ y cls dx (g.trans g') r (sr.mono g') er e
def upS (K : PySem.W.Frag) (W : WX) (dt : DTS) : TS := fun E σ H => ∃ (Φ : Hp) (ρ : Rho) (G0 : Hp) (as0 : List Addr) (G : Hp) (as : List Addr) (μ : Mu) (DE : DEnds), Gr G0 as0 G as ∧ SRel K G as σ ρ ∧ Rep K Φ G as μ H ∧ dt DE ρ μ ∧ LEnds K W Φ G0 as0 DE E

abbrev DE (X : Cx) (W : WX) (e : Expr) (dt : DTE) : Prop := PE X e (up X.K W dt)
abbrev DT (X : Cx) (W : WX) (e : Expr) (dt : DTT) : Prop := PT X e (upT X.K W dt)
abbrev DA (X : Cx) (W : WX) (es : List Expr) (dt : DTA) : Prop := PA X es (upA X.K W dt)
abbrev DS (X : Cx) (W : WX) (st : Stmt) (dt : DTS) : Prop := PS X st (upS X.K W dt)
abbrev DSs (X : Cx) (W : WX) (st : List Stmt) (dt : DTS) : Prop := PSs X st (upS X.K W dt)

section
variable {X : Cx} {W : WX}
theorem peI {e : Expr} {t t' : TE} (h : PE X e t) (i : ∀ σ H R, t' σ H R → t σ H R) : PE X e t' := ⟨fun pins s σ H Q I q => h.run pins s σ H Q I (i σ H Q q)⟩
theorem ptI {e : Expr} {t t' : TT} (h : PT X e t) (i : ∀ σ H R, t' σ H R → t σ H R) : PT X e t' := ⟨fun pins s σ H Q I q => h.run pins s σ H Q I (i σ H Q q)⟩
theorem paI {e : List Expr} {t t' : TA} (h : PA X e t) (i : ∀ σ H R, t' σ H R → t σ H R) : PA X e t' := ⟨fun pos pins s σ H Q I q => h.run pos pins s σ H Q I (i σ H Q q)⟩
theorem psI {e : Stmt} {t t' : TS} (h : PS X e t) (i : ∀ E σ H, t' E σ H → t E σ H) : PS X e t' := ⟨fun pins s σ H E I q => h.run pins s σ H E I (i E σ H q)⟩
theorem pssI {e : List Stmt} {t t' : TS} (h : PSs X e t) (i : ∀ E σ H, t' E σ H → t E σ H) : PSs X e t' := ⟨fun pins s σ H E I q => h.run pins s σ H E I (i E σ H q)⟩

/-! ### names, constants -/
def dVar (i : Nat) : DTE := fun ρ μ Q _ => ∃ d, ρ[i]? = some (some d) ∧ Q d μ
def dC (d : D) : DTE := fun _ μ Q _ => Q d μ
theorem de_var {i : Nat} {x : Str} {pos : Pos} (hN : X.N[i]? = some x) (hv : Vis X.env.scope x) (hd : (x == ("__debug__" : Str)) = false := by decide) (hcd : (x == ("__classdict__" : Str)) = false := by decide) : DE X W (.Name x pos) (dVar i) :=
  peI (pe_var hN hv hd hcd) fun σ H R ⟨Φ, ρ, G, as, μ, Q, Ex, sr, rp, ⟨d, e, q⟩, lx, k⟩ => by
    obtain ⟨v, e1, e2⟩ := sr.at' i d e
    exact ⟨v, e1, k G as μ H v d (Gr.refl _ _) rp e2 q⟩
theorem dv (i : Nat) {x : Str} {pos : Pos} (hN : X.N[i]? = some x := by rfl) (hv : Vis X.env.scope x := by first | exact Or.inl rfl | exact Or.inr (Or.inl rfl) | exact Or.inr (Or.inr rfl)) (hd : (x == ("__debug__" : Str)) = false := by decide)
    (hcd : (x == ("__classdict__" : Str)) = false := by decide) : DE X W (.Name x pos) (dVar i) := de_var hN hv hd hcd
theorem de_c {e : Expr} {v : V} {d : D} (h : PE X e (tC v)) (hd : ∀ G as, Dat X.K G as v d) : DE X W e (dC d) :=
  peI h fun σ H R ⟨Φ, ρ, G, as, μ, Q, Ex, sr, rp, q, lx, k⟩ => k G as μ H v d (Gr.refl _ _) rp (hd G as) q
theorem de_int {i j pos} : DE X W (.Constant (.int i) j pos) (dC (.int i)) := de_c pe_int fun _ _ => .int i
theorem de_bl {b j pos} : DE X W (.Constant (.bool b) j pos) (dC (.bl b)) := de_c pe_bl fun _ _ => .bl b
theorem de_non {j pos} : DE X W (.Constant .none j pos) (dC .non) := de_c pe_non fun _ _ => .non
theorem de_str {x j pos} : DE X W (.Constant (.str x) j pos) (dC (.str x)) := de_c pe_str fun _ _ => .str x
/-- a module's constant, class, function by its tree -/
theorem de_glob {x : Str} {v : V} {u : Value} {d : D} {pos : Pos} (hm : X.mg x = some u) (r : RelV v u) (hd : ∀ G as, Dat X.K G as v d) (hg : Gl X x := by rfl) (hdb : (x == ("__debug__" : Str)) = false := by decide) : DE X W (.Name x pos) (dC d) :=
  de_c (pe_glob hg hm r hdb) hd
/-- a builtin's name as a value -/
theorem de_bltn {x : Str} {v : V} {u : Value} {d : D} {pos : Pos} (hm : X.mg x = none) (hv : bootBuiltins x = some u) (r : RelV v u) (hd : ∀ G as, Dat X.K G as v d) (hg : Gl X x := by rfl) (hn : x ≠ "__name__" := by decide) (hdb : (x == ("__debug__" : Str)) = false := by decide) : DE X W (.Name x pos) (dC d) :=
  de_c (pe_bltn hg hm hv r hn hdb) hd

/-! ### lists of expressions -/
def dNil : DTA := fun _ μ Q _ => Q [] μ
def dCons (t : DTE) (u : DTA) : DTA := fun ρ μ Q Ex => t ρ μ (fun d μ1 => u ρ μ1 (fun ds μ2 => Q (d :: ds) μ2) Ex) Ex
theorem da_nil : DA X W [] dNil := paI pa_nil fun σ H R ⟨Φ, ρ, G, as, μ, Q, Ex, sr, rp, q, lx, k⟩ => k G as μ H [] [] (Gr.refl _ _) rp .nil q
theorem da_cons {e : Expr} {es : List Expr} {t : DTE} {u : DTA} (ha : DE X W e t) (hr : DA X W es u) (hs : starEach (e :: es) X.env = (false, eval e X.env) :: starEach es X.env := by rfl) : DA X W (e :: es) (dCons t u) :=
  paI (pa_cons ha hr hs) fun σ H R ⟨Φ, ρ, G, as, μ, Q, Ex, sr, rp, q, lx, k⟩ =>
    ⟨Φ, ρ, G, as, μ, _, Ex, sr, rp, q, lx, fun G1 as1 μ1 H1 v d g1 rp1 d1 q1 => ⟨Φ, ρ, G1, as1, μ1, _, Ex, sr.mono g1, rp1, q1, lx.mono g1, fun G2 as2 μ2 H2 vs ds g2 rp2 d2 q2 => k G2 as2 μ2 H2 _ _ (g1.trans g2) rp2 (.cons (d1.mono g2) d2) q2⟩⟩

/-! ### operators by values -/
abbrev DR1 := D → Mu → DQ → Prop
abbrev DR2 := D → D → Mu → DQ → Prop
abbrev DRs := List D → Mu → DQ → Prop
/-- what a rule's reading asks is given -/
def L1 (K : PySem.W.Frag) (r : V → Hp → VK → Prop) (dr : DR1) : Prop :=
  ∀ (Φ G : Hp) (as : List Addr) (μ : Mu) (H : Hp) (x : V) (dx : D) (Q : DQ) (R : VK), Rep K Φ G as μ H → Dat K G as x dx → dr dx μ Q →
    (∀ (G' : Hp) (as' : List Addr) (μ' : Mu) (H' : Hp) (v : V) (d : D), Gr G as G' as' → Rep K Φ G' as' μ' H' → Dat K G' as' v d → Q d μ' → R v H') → r x H R
def L2' (K : PySem.W.Frag) (r : R2) (dr : DR2) : Prop :=
  ∀ (Φ G : Hp) (as : List Addr) (μ : Mu) (H : Hp) (x y : V) (dx dy : D) (Q : DQ) (R : VK), Rep K Φ G as μ H → Dat K G as x dx → Dat K G as y dy → dr dx dy μ Q →
    (∀ (G' : Hp) (as' : List Addr) (μ' : Mu) (H' : Hp) (v : V) (d : D), Gr G as G' as' → Rep K Φ G' as' μ' H' → Dat K G' as' v d → Q d μ' → R v H') → r x y H R
def Ls (K : PySem.W.Frag) (r : List V → Hp → VK → Prop) (dr : DRs) : Prop :=
  ∀ (Φ G : Hp) (as : List Addr) (μ : Mu) (H : Hp) (xs : List V) (ds : List D) (Q : DQ) (R : VK), Rep K Φ G as μ H → Dats K G as xs ds → dr ds μ Q →
    (∀ (G' : Hp) (as' : List Addr) (μ' : Mu) (H' : Hp) (v : V) (d : D), Gr G as G' as' → Rep K Φ G' as' μ' H' → Dat K G' as' v d → Q d μ' → R v H') → r xs H R
def dOp (dr : DR2) (ta tb : DTE) : DTE := fun ρ μ Q Ex => ta ρ μ (fun x μ1 => tb ρ μ1 (fun y μ2 => dr x y μ2 Q) Ex) Ex
def dUn (dr : DR1) (ta : DTE) : DTE := fun ρ μ Q Ex => ta ρ μ (fun x μ1 => dr x μ1 Q) Ex
def dCB (dr : DRs) (ta : DTA) : DTE := fun ρ μ Q Ex => ta ρ μ (fun xs μ1 => dr xs μ1 Q) Ex
variable {a b : Expr} {da db : DTE} {pos : Pos}
theorem up_bin {K : PySem.W.Frag} {r : R2} {dr : DR2} (hd : L2' K r dr) {σ : L2.St} {H : Hp} {R : VK} (h : up K W (dOp dr da db) σ H R) : tOp r (up K W da) (up K W db) σ H R := by
  obtain ⟨Φ, ρ, G, as, μ, Q, Ex, sr, rp, q, lx, k⟩ := h
  exact ⟨Φ, ρ, G, as, μ, _, Ex, sr, rp, q, lx, fun G1 as1 μ1 H1 x dx g1 rp1 d1 q1 => ⟨Φ, ρ, G1, as1, μ1, _, Ex, sr.mono g1, rp1, q1, lx.mono g1, fun G2 as2 μ2 H2 y dy g2 rp2 d2 q2 =>
    hd Φ G2 as2 μ2 H2 x y dx dy Q R rp2 (d1.mono g2) d2 q2 fun G3 as3 μ3 H3 v d g3 rp3 d3 q3 => k G3 as3 μ3 H3 v d ((g1.trans g2).trans g3) rp3 d3 q3⟩⟩
theorem de_op {op : Operator} {r : R2} {dr : DR2} (ho : OpR X (binaryOp op) r) (hd : L2' X.K r dr) (ha : DE X W a da) (hb : DE X W b db) : DE X W (.BinOp a op b pos) (dOp dr da db) := peI (pe_op ho ha hb) fun _ _ _ h => up_bin hd h
theorem de_cmpR {op : CmpOp} {r : R2} {dr : DR2} (ho : OpR X (compareOp op) r) (hd : L2' X.K r dr) (ha : DE X W a da) (hb : DE X W b db) (hm : behindInMarks op b = false) : DE X W (.Compare a [op] [b] pos) (dOp dr da db) := peI (pe_cmpR ho ha hb hm) fun _ _ _ h => up_bin hd h
theorem de_ix {r : R2} {dr : DR2} (hr : IxR X r) (hd : L2' X.K r dr) (ha : DE X W a da) (hb : DE X W b db) (hs : PlainIx b) : DE X W (.Subscript a b pos) (dOp dr da db) := peI (pe_ix hr ha hb hs) fun _ _ _ h => up_bin hd h
theorem up_un {K : PySem.W.Frag} {r : V → Hp → VK → Prop} {dr : DR1} (hd : L1 K r dr) {σ : L2.St} {H : Hp} {R : VK} (h : up K W (dUn dr da) σ H R) : tUn r (up K W da) σ H R := by
  obtain ⟨Φ, ρ, G, as, μ, Q, Ex, sr, rp, q, lx, k⟩ := h
  exact ⟨Φ, ρ, G, as, μ, _, Ex, sr, rp, q, lx, fun G1 as1 μ1 H1 x dx g1 rp1 d1 q1 => hd Φ G1 as1 μ1 H1 x dx Q R rp1 d1 q1 fun G3 as3 μ3 H3 v d g3 rp3 d3 q3 => k G3 as3 μ3 H3 v d (g1.trans g3) rp3 d3 q3⟩
theorem de_un {op : UnaryOp} {r : V → Hp → VK → Prop} {dr : DR1} (ho : UnR X (unaryOp op) r) (hd : L1 X.K r dr) (ha : DE X W a da) : DE X W (.UnaryOp op a pos) (dUn dr da) := peI (pe_un ho ha) fun _ _ _ h => up_un hd h
theorem up_cb {K : PySem.W.Frag} {r : List V → Hp → VK → Prop} {dr : DRs} {ta : DTA} (hd : Ls K r dr) {σ : L2.St} {H : Hp} {R : VK} (h : up K W (dCB dr ta) σ H R) : tCB r (upA K W ta) σ H R := by
  obtain ⟨Φ, ρ, G, as, μ, Q, Ex, sr, rp, q, lx, k⟩ := h
  exact ⟨Φ, ρ, G, as, μ, _, Ex, sr, rp, q, lx, fun G1 as1 μ1 H1 x dx g1 rp1 d1 q1 => hd Φ G1 as1 μ1 H1 x dx Q R rp1 d1 q1 fun G3 as3 μ3 H3 v d g3 rp3 d3 q3 => k G3 as3 μ3 H3 v d (g1.trans g3) rp3 d3 q3⟩
variable {x : Str} {p : Pos} {e : Expr} {es : List Expr} {ta : DTA} {id T : String} {r : List V → Hp → VK → Prop} {dr : DRs}
theorem de_callB (hc : CallR X (.builtin id) r) (hd : Ls X.K r dr) (hm : X.mg x = none) (hv : bootBuiltins x = some (.builtin id)) (ha : DA X W (e :: es) ta) (hg : Gl X x := by rfl) (hn : x ≠ "__name__" := by decide) (hdb : (x == ("__debug__" : Str)) = false := by decide)
    (he : starEach (e :: es) X.env = (false, eval e X.env) :: starEach es X.env := by rfl) (hpl : (backTo pos (starEach es X.env)).any (·.1) = false := by rfl) : DE X W (.Call (.Name x p) (e :: es) [] pos) (dCB dr ta) := peI (pe_callB hc hg hm hv ha hn hdb he hpl) fun _ _ _ h => up_cb hd h
theorem de_callTy (hc : CallR X (.type T) r) (hd : Ls X.K r dr) (hm : X.mg x = none) (hv : bootBuiltins x = some (.type T)) (ha : DA X W (e :: es) ta) (hg : Gl X x := by rfl) (hn : x ≠ "__name__" := by decide) (hdb : (x == ("__debug__" : Str)) = false := by decide)
    (he : starEach (e :: es) X.env = (false, eval e X.env) :: starEach es X.env := by rfl) (hpl : (backTo pos (starEach es X.env)).any (·.1) = false := by rfl) : DE X W (.Call (.Name x p) (e :: es) [] pos) (dCB dr ta) := peI (pe_callTy hc hg hm hv ha hn hdb he hpl) fun _ _ _ h => up_cb hd h

/-! ### tests -/
def dB (t : DTE) : DTT := fun ρ μ Q Ex => t ρ μ (fun d μ1 => ∃ c, d = .bl c ∧ Q c μ1) Ex
theorem dat_bl {K : PySem.W.Frag} {G : Hp} {as : List Addr} {v : V} {c : Bool} (h : Dat K G as v (.bl c)) : v = .bl c := by cases h; rfl
theorem up_b {K : PySem.W.Frag} {t : DTE} {σ : L2.St} {H : Hp} {R : Bool → Hp → Prop} (h : upT K W (dB t) σ H R) : tB (up K W t) σ H R := by
  obtain ⟨Φ, ρ, G, as, μ, Q, Ex, sr, rp, q, lx, k⟩ := h
  refine ⟨Φ, ρ, G, as, μ, _, Ex, sr, rp, q, lx, fun G1 as1 μ1 H1 x dx g1 rp1 d1 ⟨c, e, q1⟩ => ?_⟩
  subst e
  exact ⟨c, dat_bl d1, k G1 as1 μ1 H1 c g1 rp1 q1⟩
theorem dt_val (h : DE X W a da) (he : ∀ whole, isTrue a X.env whole = (do let v ← whole; standAt a.pos; holding [v] (truthy v)) := by intro _; rfl) : DT X W a (dB da) := ptI (pt_val h he) fun _ _ _ h => up_b h
theorem dt_cmpR {op : CmpOp} {r : R2} {dr : DR2} (ho : OpR X (compareOp op) r) (hd : L2' X.K r dr) (ha : DE X W a da) (hb : DE X W b db) (hm : behindInMarks op b = false) : DT X W (.Compare a [op] [b] pos) (dB (dOp dr da db)) := by
  refine ptI (pt_cmpR ho ha hb hm) fun σ H R h => ?_
  have h2 := up_b h
  exact up_bin hd h2
def dNot (t : DTT) : DTT := fun ρ μ Q Ex => t ρ μ (fun c μ1 => Q (!c) μ1) Ex
theorem dt_not {t : DTT} (h : DT X W a t) : DT X W (.UnaryOp .Not a pos) (dNot t) := ptI (pt_not h) fun σ H R ⟨Φ, ρ, G, as, μ, Q, Ex, sr, rp, q, lx, k⟩ =>
  ⟨Φ, ρ, G, as, μ, _, Ex, sr, rp, q, lx, fun G1 as1 μ1 H1 c g1 rp1 q1 => k G1 as1 μ1 H1 (!c) g1 rp1 q1⟩
abbrev DW (X : Cx) (W : WX) (e : Expr) (dt : DTT) : Prop := PW X e (upT X.K W dt)
theorem pwI {e : Expr} {t t' : TT} (h : PW X e t) (i : ∀ σ H R, t' σ H R → t σ H R) : PW X e t' := ⟨fun w pins s σ H Q I q => h.run w pins s σ H Q I (i σ H Q q)⟩
def dAnd (t u : DTT) : DTT := fun ρ μ Q Ex => t ρ μ (fun c μ1 => if c = true then u ρ μ1 Q Ex else Q false μ1) Ex
def dOr (t u : DTT) : DTT := fun ρ μ Q Ex => t ρ μ (fun c μ1 => if c = true then Q true μ1 else u ρ μ1 Q Ex) Ex
variable {rest : List Expr} {tt uu : DTT}
theorem dw_and1 (h : DT X W a tt) : DW X W (.BoolOp .And [a] pos) tt := pw_and1 h
theorem dw_or1 (h : DT X W a tt) : DW X W (.BoolOp .Or [a] pos) tt := pw_or1 h
theorem dw_and (h : DT X W a tt) (h2 : DW X W (.BoolOp .And (b :: rest) pos) uu) : DW X W (.BoolOp .And (a :: b :: rest) pos) (dAnd tt uu) := pwI (pw_and h h2) fun σ H R ⟨Φ, ρ, G, as, μ, Q, Ex, sr, rp, q, lx, k⟩ =>
  ⟨Φ, ρ, G, as, μ, _, Ex, sr, rp, q, lx, fun G1 as1 μ1 H1 c g1 rp1 q1 => by
    cases c with
    | true => exact iteT ⟨Φ, ρ, G1, as1, μ1, _, Ex, sr.mono g1, rp1, by simpa using q1, lx.mono g1, fun G2 as2 μ2 H2 c g2 rp2 q2 => k G2 as2 μ2 H2 c (g1.trans g2) rp2 q2⟩
    | false => exact iteF (k G1 as1 μ1 H1 false g1 rp1 (by simpa using q1))⟩
theorem dw_or (h : DT X W a tt) (h2 : DW X W (.BoolOp .Or (b :: rest) pos) uu) : DW X W (.BoolOp .Or (a :: b :: rest) pos) (dOr tt uu) := pwI (pw_or h h2) fun σ H R ⟨Φ, ρ, G, as, μ, Q, Ex, sr, rp, q, lx, k⟩ =>
  ⟨Φ, ρ, G, as, μ, _, Ex, sr, rp, q, lx, fun G1 as1 μ1 H1 c g1 rp1 q1 => by
    cases c with
    | true => exact iteT (k G1 as1 μ1 H1 true g1 rp1 (by simpa using q1))
    | false => exact iteF ⟨Φ, ρ, G1, as1, μ1, _, Ex, sr.mono g1, rp1, by simpa using q1, lx.mono g1, fun G2 as2 μ2 H2 c g2 rp2 q2 => k G2 as2 μ2 H2 c (g1.trans g2) rp2 q2⟩⟩
/-- and, or, not as values -/
def dAndV (t u : DTE) : DTE := fun ρ μ Q Ex => t ρ μ (fun d μ1 => ∃ c, d = .bl c ∧ if c = true then u ρ μ1 Q Ex else Q (.bl false) μ1) Ex
def dOrV (t u : DTE) : DTE := fun ρ μ Q Ex => t ρ μ (fun d μ1 => ∃ c, d = .bl c ∧ if c = true then Q (.bl true) μ1 else u ρ μ1 Q Ex) Ex
def dNotV (t : DTE) : DTE := fun ρ μ Q Ex => t ρ μ (fun d μ1 => ∃ c, d = .bl c ∧ Q (.bl (!c)) μ1) Ex
theorem de_one {op} (h : DE X W a da) : DE X W (.BoolOp op [a] pos) da := pe_one h
theorem de_and (h : DE X W a da) (h2 : DE X W (.BoolOp .And (b :: rest) pos) db) : DE X W (.BoolOp .And (a :: b :: rest) pos) (dAndV da db) := peI (pe_and h h2) fun σ H R ⟨Φ, ρ, G, as, μ, Q, Ex, sr, rp, q, lx, k⟩ =>
  ⟨Φ, ρ, G, as, μ, _, Ex, sr, rp, q, lx, fun G1 as1 μ1 H1 v d g1 rp1 d1 ⟨c, e, q1⟩ => by
    subst e
    refine ⟨c, dat_bl d1, ?_⟩
    cases c with
    | true => exact iteT ⟨Φ, ρ, G1, as1, μ1, _, Ex, sr.mono g1, rp1, by simpa using q1, lx.mono g1, fun G2 as2 μ2 H2 c d g2 rp2 d2 q2 => k G2 as2 μ2 H2 c d (g1.trans g2) rp2 d2 q2⟩
    | false => exact iteF (k G1 as1 μ1 H1 _ _ g1 rp1 (.bl false) (by simpa using q1))⟩
theorem de_or (h : DE X W a da) (h2 : DE X W (.BoolOp .Or (b :: rest) pos) db) : DE X W (.BoolOp .Or (a :: b :: rest) pos) (dOrV da db) := peI (pe_or h h2) fun σ H R ⟨Φ, ρ, G, as, μ, Q, Ex, sr, rp, q, lx, k⟩ =>
  ⟨Φ, ρ, G, as, μ, _, Ex, sr, rp, q, lx, fun G1 as1 μ1 H1 v d g1 rp1 d1 ⟨c, e, q1⟩ => by
    subst e
    refine ⟨c, dat_bl d1, ?_⟩
    cases c with
    | true => exact iteT (k G1 as1 μ1 H1 _ _ g1 rp1 (.bl true) (by simpa using q1))
    | false => exact iteF ⟨Φ, ρ, G1, as1, μ1, _, Ex, sr.mono g1, rp1, by simpa using q1, lx.mono g1, fun G2 as2 μ2 H2 c d g2 rp2 d2 q2 => k G2 as2 μ2 H2 c d (g1.trans g2) rp2 d2 q2⟩⟩
theorem de_not (h : DE X W a da) : DE X W (.UnaryOp .Not a pos) (dNotV da) := peI (pe_not h) fun σ H R ⟨Φ, ρ, G, as, μ, Q, Ex, sr, rp, q, lx, k⟩ =>
  ⟨Φ, ρ, G, as, μ, _, Ex, sr, rp, q, lx, fun G1 as1 μ1 H1 v d g1 rp1 d1 ⟨c, e, q1⟩ => by
    subst e
    exact ⟨c, dat_bl d1, k G1 as1 μ1 H1 _ _ g1 rp1 (.bl _) q1⟩⟩
def dIf (c : DTT) (t u : DTE) : DTE := fun ρ μ Q Ex => c ρ μ (fun b μ1 => if b = true then t ρ μ1 Q Ex else u ρ μ1 Q Ex) Ex
theorem de_ifExp {c : Expr} (hc : DT X W c tt) (h : DE X W a da) (h2 : DE X W b db) : DE X W (.IfExp c a b pos) (dIf tt da db) := peI (pe_ifExp hc h h2) fun σ H R ⟨Φ, ρ, G, as, μ, Q, Ex, sr, rp, q, lx, k⟩ =>
  ⟨Φ, ρ, G, as, μ, _, Ex, sr, rp, q, lx, fun G1 as1 μ1 H1 c g1 rp1 q1 => by
    cases c with
    | true => exact iteT ⟨Φ, ρ, G1, as1, μ1, _, Ex, sr.mono g1, rp1, by simpa using q1, lx.mono g1, fun G2 as2 μ2 H2 c d g2 rp2 d2 q2 => k G2 as2 μ2 H2 c d (g1.trans g2) rp2 d2 q2⟩
    | false => exact iteF ⟨Φ, ρ, G1, as1, μ1, _, Ex, sr.mono g1, rp1, by simpa using q1, lx.mono g1, fun G2 as2 μ2 H2 c d g2 rp2 d2 q2 => k G2 as2 μ2 H2 c d (g1.trans g2) rp2 d2 q2⟩⟩
/-- a < b < c -/
def dChain (r r' : DR2) (ta tb tc : DTE) : DTE := fun ρ μ Q Ex => ta ρ μ (fun x μ1 => tb ρ μ1 (fun y μ2 => r x y μ2 fun z μ3 => ∃ k, z = .bl k ∧ if k = true then tc ρ μ3 (fun w μ4 => r' y w μ4 Q) Ex else Q (.bl false) μ3) Ex) Ex

/-! ### blocks -/
def dNext : DTS := fun E ρ μ => E.nx ρ μ
def dSeq (t u : DTS) : DTS := fun E ρ μ => t { E with nx := u E } ρ μ
theorem dss_nil : DSs X W [] dNext := pssI pss_nil fun E σ H ⟨Φ, ρ, G0, as0, G, as, μ, DE, g0, sr, rp, q, le⟩ => le.nx G as μ H σ ρ g0 rp sr q
theorem dss_cons {st : Stmt} {rest : List Stmt} {t u : DTS} (h1 : DS X W st t) (h2 : DSs X W rest u) : DSs X W (st :: rest) (dSeq t u) := pssI (pss_cons h1 h2) fun E σ H ⟨Φ, ρ, G0, as0, G, as, μ, DE, g0, sr, rp, q, le⟩ =>
  ⟨Φ, ρ, G0, as0, G, as, μ, { DE with nx := u DE }, g0, sr, rp, q, ⟨le.lo, fun G1 as1 μ1 H1 σ1 ρ1 g1 rp1 sr1 q1 => ⟨Φ, ρ1, G0, as0, G1, as1, μ1, DE, g1, sr1, rp1, q1, le⟩, le.rt, le.ex, le.bk, le.ct⟩⟩
theorem dss_one {st : Stmt} {t : DTS} (h1 : DS X W st t) : DSs X W [st] t := pss_one h1
/-- a step of the mind alone: the state is told otherwise; cells from lo on may be dropped -/
def Ghost (lo : Nat) (ρ : Rho) (μ : Mu) (ρ1 : Rho) (μ1 : Mu) : Prop :=
  ∀ (K : PySem.W.Frag) (Φ G : Hp) (as : List Addr) (σ : L2.St) (H G0 : Hp) (as0 : List Addr), Gr G0 as0 G as → as0.length = lo → SRel K G as σ ρ → Rep K Φ G as μ H → ∃ (G1 : Hp) (as1 : List Addr), Gr G0 as0 G1 as1 ∧ SRel K G1 as1 σ ρ1 ∧ Rep K Φ G1 as1 μ1 H
theorem Ghost.refl {lo : Nat} {ρ : Rho} {μ : Mu} : Ghost lo ρ μ ρ μ := fun _ _ G as _ _ _ _ g _ sr rp => ⟨G, as, g, sr, rp⟩
theorem Ghost.trans {lo : Nat} {ρ ρ1 ρ2 : Rho} {μ μ1 μ2 : Mu} (a : Ghost lo ρ μ ρ1 μ1) (b : Ghost lo ρ1 μ1 ρ2 μ2) : Ghost lo ρ μ ρ2 μ2 := fun K Φ G as σ H G0 as0 g hl sr rp => by
  obtain ⟨G1, as1, g1, sr1, rp1⟩ := a K Φ G as σ H G0 as0 g hl sr rp
  exact b K Φ G1 as1 σ H G0 as0 g1 hl sr1 rp1
/-- such a step behind a statement -/
def dGh (t : DTS) : DTS := fun E ρ μ => t { E with nx := fun ρ' μ' => ∃ ρ1 μ1, Ghost E.lo ρ' μ' ρ1 μ1 ∧ E.nx ρ1 μ1 } ρ μ
theorem ds_gh {st : Stmt} {t : DTS} (h : DS X W st t) : DS X W st (dGh t) := psI h fun E σ H ⟨Φ, ρ, G0, as0, G, as, μ, DE, g0, sr, rp, q, le⟩ =>
  ⟨Φ, ρ, G0, as0, G, as, μ, { DE with nx := fun ρ' μ' => ∃ ρ1 μ1, Ghost DE.lo ρ' μ' ρ1 μ1 ∧ DE.nx ρ1 μ1 }, g0, sr, rp, q, ⟨le.lo, fun G1 as1 μ1 H1 σ1 ρ1 g1 rp1 sr1 ⟨ρ2, μ2, gh, q1⟩ => by
    obtain ⟨G2, as2, g2, sr2, rp2⟩ := gh X.K Φ G1 as1 σ1 H1 G0 as0 g1 le.lo sr1 rp1
    exact le.nx G2 as2 μ2 H1 σ1 ρ2 g2 rp2 sr2 q1, le.rt, le.ex, le.bk, le.ct⟩⟩
theorem ds_pass : DS X W (.Pass pos) dNext := psI ps_pass fun E σ H ⟨Φ, ρ, G0, as0, G, as, μ, DE, g0, sr, rp, q, le⟩ => le.nx G as μ H σ ρ g0 rp sr q
def dDrop (te : DTE) : DTS := fun E ρ μ => te ρ μ (fun _ μ1 => E.nx ρ μ1) (fun cls μ1 => E.ex cls ρ μ1)
theorem ds_expr (he : DE X W e da) (hs : swapsWith e none pos.line X.env = pure false := by rfl) : DS X W (.Expr e pos) (dDrop da) := psI (ps_expr he hs) fun E σ H ⟨Φ, ρ, G0, as0, G, as, μ, DE, g0, sr, rp, q, le⟩ =>
  ⟨Φ, ρ, G, as, μ, _, _, sr, rp, q, le.lxg g0 sr, fun G1 as1 μ1 H1 v d g1 rp1 d1 q1 => le.nx G1 as1 μ1 H1 σ ρ (g0.trans g1) rp1 (sr.mono g1) q1⟩
def dRet (te : DTE) : DTS := fun E ρ μ => te ρ μ E.rt (fun cls μ1 => E.ex cls ρ μ1)
theorem ds_ret (he : DE X W e da) : DS X W (.Return (some e) pos) (dRet da) := psI (ps_ret he) fun E σ H ⟨Φ, ρ, G0, as0, G, as, μ, DE, g0, sr, rp, q, le⟩ =>
  ⟨Φ, ρ, G, as, μ, _, _, sr, rp, q, le.lxg g0 sr, fun G1 as1 μ1 H1 v d g1 rp1 d1 q1 => le.rt G1 as1 μ1 H1 v d (g0.trans g1) rp1 d1 q1⟩
def dRetN : DTS := fun E _ μ => E.rt .non μ
theorem ds_retN : DS X W (.Return none pos) dRetN := psI ps_retN fun E σ H ⟨Φ, ρ, G0, as0, G, as, μ, DE, g0, sr, rp, q, le⟩ => le.rt G as μ H _ _ g0 rp .non q
def dIfS (c : DTT) (t u : DTS) : DTS := fun E ρ μ => c ρ μ (fun b μ1 => if b = true then t E ρ μ1 else u E ρ μ1) (fun cls μ1 => E.ex cls ρ μ1)
theorem ds_if {c : Expr} {A B : List Stmt} {t u : DTS} (hc : DT X W c tt) (h1 : DSs X W A t) (h2 : DSs X W B u) : DS X W (.If c A B pos) (dIfS tt t u) := psI (ps_if hc h1 h2) fun E σ H ⟨Φ, ρ, G0, as0, G, as, μ, DE, g0, sr, rp, q, le⟩ =>
  ⟨Φ, ρ, G, as, μ, _, _, sr, rp, q, le.lxg g0 sr, fun G1 as1 μ1 H1 c g1 rp1 q1 => by
    cases c with
    | true => exact iteT ⟨Φ, ρ, G0, as0, G1, as1, μ1, DE, g0.trans g1, sr.mono g1, rp1, by simpa using q1, le⟩
    | false => exact iteF ⟨Φ, ρ, G0, as0, G1, as1, μ1, DE, g0.trans g1, sr.mono g1, rp1, by simpa using q1, le⟩⟩
def dBreak : DTS := fun E ρ μ => E.bk ρ μ
def dCont : DTS := fun E ρ μ => E.ct ρ μ
theorem ds_break : DS X W (.Break pos) dBreak := psI ps_break fun E σ H ⟨Φ, ρ, G0, as0, G, as, μ, DE, g0, sr, rp, q, le⟩ => le.bk G as μ H σ ρ g0 rp sr q
theorem ds_continue : DS X W (.Continue pos) dCont := psI ps_continue fun E σ H ⟨Φ, ρ, G0, as0, G, as, μ, DE, g0, sr, rp, q, le⟩ => le.ct G as μ H σ ρ g0 rp sr q

/-! ### targets -/
abbrev DTG := D → Rho → Mu → (Rho → Mu → Prop) → Prop
abbrev DTGs := List D → Rho → Mu → (Rho → Mu → Prop) → Prop
def upG (K : PySem.W.Frag) (dt : DTG) : TG := fun v σ H R => ∃ (Φ : Hp) (ρ : Rho) (G : Hp) (as : List Addr) (μ : Mu) (d : D) (Q : Rho → Mu → Prop), SRel K G as σ ρ ∧ Rep K Φ G as μ H ∧ Dat K G as v d ∧ dt d ρ μ Q ∧
  ∀ (G' : Hp) (as' : List Addr) (μ' : Mu) (H' : Hp) (σ' : L2.St) (ρ' : Rho), Gr G as G' as' → Rep K Φ G' as' μ' H' → SRel K G' as' σ' ρ' → Q ρ' μ' → R σ' H'
def upGs (K : PySem.W.Frag) (dt : DTGs) : TGs := fun vs σ H R => ∃ (Φ : Hp) (ρ : Rho) (G : Hp) (as : List Addr) (μ : Mu) (ds : List D) (Q : Rho → Mu → Prop), SRel K G as σ ρ ∧ Rep K Φ G as μ H ∧ Dats K G as vs ds ∧ dt ds ρ μ Q ∧
  ∀ (G' : Hp) (as' : List Addr) (μ' : Mu) (H' : Hp) (σ' : L2.St) (ρ' : Rho), Gr G as G' as' → Rep K Φ G' as' μ' H' → SRel K G' as' σ' ρ' → Q ρ' μ' → R σ' H'
abbrev DG (X : Cx) (target : Expr) (dt : DTG) : Prop := PG X target (upG X.K dt)
abbrev DGs (X : Cx) (ts : List Expr) (dt : DTGs) : Prop := PGs X ts (upGs X.K dt)
theorem pgI {e : Expr} {t t' : TG} (h : PG X e t) (i : ∀ v σ H R, t' v σ H R → t v σ H R) : PG X e t' := ⟨fun pins s σ H v u Q I r q => h.run pins s σ H v u Q I r (i v σ H Q q)⟩
theorem pgsI {e : List Expr} {t t' : TGs} (h : PGs X e t) (i : ∀ v σ H R, t' v σ H R → t v σ H R) : PGs X e t' := ⟨fun pins s σ H v u Q I r q => h.run pins s σ H v u Q I r (i v σ H Q q)⟩
def hName (i : Nat) : DTG := fun d ρ μ Q => Q (ρ.set i (some d)) μ
theorem dg_name {i : Nat} {x : Str} (hN : X.N.Nodup) (hi : X.N[i]? = some x) (hx : Loc X.env.scope x) (hf : X.fn x = true ∨ X.env.scope.names.lookup x = some .local := by first | exact .inl rfl | exact .inr rfl | assumption) : DG X (.Name x pos) (hName i) :=
  pgI (pg_name hN hi hx hf) fun v σ H R ⟨Φ, ρ, G, as, μ, d, Q, sr, rp, dd, q, k⟩ => k G as μ H _ _ (Gr.refl _ _) rp (sr.set i dd) q
def hNil : DTGs := fun ds ρ μ Q => ds = [] ∧ Q ρ μ
def hCons (t : DTG) (u : DTGs) : DTGs := fun ds ρ μ Q => ∃ d r, ds = d :: r ∧ t d ρ μ fun ρ' μ' => u r ρ' μ' Q
theorem dgs_nil : DGs X [] hNil := pgsI pgs_nil fun v σ H R ⟨Φ, ρ, G, as, μ, ds, Q, sr, rp, dd, ⟨e, q⟩, k⟩ => by
  subst e
  cases dd
  exact ⟨rfl, k G as μ H σ ρ (Gr.refl _ _) rp sr q⟩
theorem dgs_cons {e : Expr} {es : List Expr} {t : DTG} {u : DTGs} (h1 : DG X e t) (h2 : DGs X es u) (hs : (assignEach (e :: es) X.env).map (·.2) = assign e X.env :: (assignEach es X.env).map (·.2) := by rfl) : DGs X (e :: es) (hCons t u) :=
  pgsI (pgs_cons h1 h2 hs) fun v σ H R ⟨Φ, ρ, G, as, μ, ds, Q, sr, rp, dd, ⟨d, r, e, q⟩, k⟩ => by
    subst e
    cases dd with
    | cons d1 d2 => exact ⟨_, _, rfl, Φ, ρ, G, as, μ, d, _, sr, rp, d1, q, fun G1 as1 μ1 H1 σ1 ρ1 g1 rp1 sr1 q1 => ⟨Φ, ρ1, G1, as1, μ1, r, Q, sr1, rp1, d2.mono g1, q1, fun G2 as2 μ2 H2 σ2 ρ2 g2 rp2 sr2 q2 => k G2 as2 μ2 H2 σ2 ρ2 (g1.trans g2) rp2 sr2 q2⟩⟩
theorem Dats.length {K : PySem.W.Frag} {G : Hp} {as : List Addr} : ∀ {vs : List V} {ds : List D}, Dats K G as vs ds → vs.length = ds.length
  | _, _, .nil => rfl
  | _, _, .cons _ t => congrArg (· + 1) (Dats.length t)
def hTup (n : Nat) (t : DTGs) : DTG := fun d ρ μ Q => ∃ ds, d = .tup ds ∧ ds.length = n ∧ t ds ρ μ Q
theorem dg_tup {es : List Expr} {k : Nat} {t : DTGs} {n : Nat} (hc : X.calm = true) (h : DGs X es t) (hn : (assignEach es X.env).length = n := by rfl) (hst : (assignEach es X.env).findIdx? (·.1) = none := by rfl) : DG X (.Tuple es k pos) (hTup n t) :=
  pgI (pg_tup hc h hn hst) fun v σ H R ⟨Φ, ρ, G, as, μ, d, Q, sr, rp, dd, ⟨ds, e, hl, q⟩, k⟩ => by
    subst e
    cases dd with
    | tup hT hs => exact ⟨_, _, rfl, Same.sqT rp.same hT, hs.length.trans hl, Φ, ρ, G, as, μ, ds, Q, sr, rp, hs, q, k⟩
def dAsg (te : DTE) (g : DTG) : DTS := fun E ρ μ => te ρ μ (fun d μ1 => g d ρ μ1 E.nx) (fun cls μ1 => E.ex cls ρ μ1)
theorem ds_asg {tg : Expr} {g : DTG} (he : DE X W e da) (hg : DG X tg g) (hs : swapsWithSole [tg] e pos.line X.env = pure false := by rfl) (hw : swappedStores [tg] e X.env = pure none := by rfl)
    (h1 : (assignEach [tg] X.env).map (·.2) = [assign tg X.env] := by rfl) : DS X W (.Assign [tg] e pos) (dAsg da g) := psI (ps_asg he hg hs hw h1) fun E σ H ⟨Φ, ρ, G0, as0, G, as, μ, DE, g0, sr, rp, q, le⟩ =>
  ⟨Φ, ρ, G, as, μ, _, _, sr, rp, q, le.lxg g0 sr, fun G1 as1 μ1 H1 v d g1 rp1 d1 q1 => ⟨Φ, ρ, G1, as1, μ1, d, _, sr.mono g1, rp1, d1, q1, fun G2 as2 μ2 H2 σ2 ρ2 g2 rp2 sr2 q2 => le.nx G2 as2 μ2 H2 σ2 ρ2 ((g0.trans g1).trans g2) rp2 sr2 q2⟩⟩
theorem ds_set {i : Nat} {x : Str} {pos' : Pos} (hN : X.N.Nodup) (hi : X.N[i]? = some x) (hx : Loc X.env.scope x) (he : DE X W e da) (hs : swapsWith e (some (.Name x pos')) pos.line X.env = pure false := by rfl) (hf : X.fn x = true ∨ X.env.scope.names.lookup x = some .local := by first | exact .inl rfl | exact .inr rfl | assumption) :
    DS X W (.Assign [.Name x pos'] e pos) (dAsg da (hName i)) := psI (ps_set hN hi hx he hs hf) fun E σ H ⟨Φ, ρ, G0, as0, G, as, μ, DE, g0, sr, rp, q, le⟩ =>
  ⟨Φ, ρ, G, as, μ, _, _, sr, rp, q, le.lxg g0 sr, fun G1 as1 μ1 H1 v d g1 rp1 d1 q1 => le.nx G1 as1 μ1 H1 _ _ (g0.trans g1) rp1 ((sr.mono g1).set i d1) q1⟩
end
end DL

/-! DLb: the store, displays, steps of the mind, loops, comprehensions, defs and their calls. -/
namespace DL
open PySem PySem.Spec PyProof.Rows L2

/-! ### the store -/
section
variable {K : PySem.W.Frag} {Φ G : Hp} {as : List Addr} {μ : Mu} {H : Hp} {p : Addr} {o : HO}
theorem Rep.gfree (r : Rep K Φ G as μ H) (h : H p = none) : G p = none := r.same.free h
theorem Rep.pfree (r : Rep K Φ G as μ H) (h : H p = none) : Φ p = none := r.fr.free h
theorem Rep.afree (r : Rep K Φ G as μ H) (h : H p = none) : p ∉ as := fun m => r.there p m h
theorem same_upd {G : Hp} (h : G p = none) : Same G (upd G p o) := fun b u e => by rw [upd_ne (ne_of_none e h)]; exact e
theorem same_upd2 {G H : Hp} (s : Same G H) (h : H p = none) : Same (upd G p o) (upd H p o) := fun b u e => by
  by_cases hb : b = p
  · subst hb; rw [upd_same] at e ⊢; exact e
  · rw [upd_ne hb] at e ⊢; exact s b u e
theorem same_upd3 {G H : Hp} (s : Same G H) (h : G p = none) : Same G (upd H p o) := fun b u e => by
  rw [upd_ne (ne_of_none e h)]; exact s b u e
/-- something settled is laid -/
theorem Rep.grow (r : Rep K Φ G as μ H) (h : H p = none) : Gr G as (upd G p o) as ∧ Rep K Φ (upd G p o) as μ (upd H p o) := by
  have g : Gr G as (upd G p o) as := ⟨same_upd (r.gfree h), List.prefix_refl _⟩
  refine ⟨g, same_upd2 r.same h, r.len, r.nd, fun a m => ?_, same_upd3 r.fr (r.pfree h), fun a u e => ?_, r.frA, fun i a m h1 h2 h3 => ?_⟩
  · have ne : a ≠ p := fun e => r.there a m (e ▸ h)
    rw [upd_ne ne]; exact r.there a m
  · have ne : a ≠ p := fun z => by subst z; rw [r.pfree h] at e; cases e
    rw [upd_ne ne]; exact r.frG a u e
  · have ne : a ≠ p := fun e => r.there a (List.mem_of_getElem? h1) (e ▸ h)
    obtain ⟨z1, z2⟩ := r.ok i a m h1 h2 h3
    rw [upd_ne ne, upd_ne ne]
    exact ⟨z1, z2.mono g⟩
/-- a new cell -/
theorem Rep.newCell {m : MO} (r : Rep K Φ G as μ H) (h : H p = none) (hm : MOk K G as m (some o)) : Gr G as G (as ++ [p]) ∧ Rep K Φ G (as ++ [p]) (μ ++ [m]) (upd H p o) ∧ (as ++ [p])[μ.length]? = some p := by
  have g : Gr G as G (as ++ [p]) := ⟨Same.refl G, List.prefix_append _ _⟩
  refine ⟨g, ⟨same_upd3 r.same (r.gfree h), by simp [r.len], ?_, fun a m => ?_, same_upd3 r.fr (r.pfree h), r.frG, fun a m => ?_, fun i a m' h1 h2 h3 => ?_⟩, by rw [← r.len]; simp⟩
  · rw [List.nodup_append]
    refine ⟨r.nd, by simp, fun a ha b hb => ?_⟩
    have e : b = p := by simpa using hb
    subst e
    exact fun z => r.afree h (z ▸ ha)
  · rcases List.mem_append.mp m with m | m
    · have ne : a ≠ p := fun e => r.there a m (e ▸ h)
      rw [upd_ne ne]; exact r.there a m
    · have e : a = p := by simpa using m
      subst e; rw [upd_same]; simp
  · rcases List.mem_append.mp m with m | m
    · exact r.frA a m
    · have e : a = p := by simpa using m
      subst e; exact r.pfree h
  · by_cases hi : i < as.length
    · rw [List.getElem?_append_left hi] at h1
      rw [List.getElem?_append_left (by rw [← r.len]; exact hi)] at h2
      have ne : a ≠ p := fun e => r.there a (List.mem_of_getElem? h1) (e ▸ h)
      obtain ⟨z1, z2⟩ := r.ok i a m' h1 h2 h3
      rw [upd_ne ne]
      exact ⟨z1, z2.mono g⟩
    · have hi' : i = as.length := by
        have := (List.getElem?_eq_some_iff.mp h1).1
        simp at this; omega
      subst hi'
      have e1 : p = a := by simpa using h1
      have e2 : m = m' := by
        have := h2
        rw [r.len] at this
        simpa using this
      subst e1 e2
      rw [upd_same]
      exact ⟨r.gfree h, hm.mono g⟩
theorem nd_at {α : Type} {l : List α} (hN : l.Nodup) {i j : Nat} {x : α} (a : l[i]? = some x) (b : l[j]? = some x) : i = j := nd_ix hN a b
/-- a cell is written -/
theorem Rep.write {i : Nat} {m m' : MO} (r : Rep K Φ G as μ H) (ha : as[i]? = some p) (hm : μ[i]? = some m) (hg : m ≠ .gone) (h : MOk K G as m' (some o)) : Rep K Φ G as (μ.set i m') (upd H p o) := by
  obtain ⟨g0, _⟩ := r.ok i p m ha hm hg
  have f0 := r.frA p (List.mem_of_getElem? ha)
  refine ⟨same_upd3 r.same g0, by simp [r.len], r.nd, fun a ma => ?_, same_upd3 r.fr f0, r.frG, r.frA, fun j a m2 h1 h2 h3 => ?_⟩
  · by_cases e : a = p
    · subst e; rw [upd_same]; simp
    · rw [upd_ne e]; exact r.there a ma
  · by_cases e : a = p
    · subst e
      have ej : i = j := nd_at r.nd ha h1
      subst ej
      rw [List.getElem?_set, if_pos rfl, if_pos (List.getElem?_eq_some_iff.mp hm).1] at h2
      cases h2
      rw [upd_same]
      exact ⟨g0, h⟩
    · have ej : i ≠ j := fun z => by subst z; rw [ha] at h1; cases h1; exact e rfl
      rw [List.getElem?_set, if_neg ej] at h2
      rw [upd_ne e]
      exact r.ok j a m2 h1 h2 h3
/-- a cell's content, told otherwise (same object) -/
theorem Rep.cast {i : Nat} {m m' : MO} (r : Rep K Φ G as μ H) (hm : μ[i]? = some m) (hg : m ≠ .gone) (h : ∀ o, MOk K G as m o → MOk K G as m' o) : Rep K Φ G as (μ.set i m') H := by
  refine ⟨r.same, by simp [r.len], r.nd, r.there, r.fr, r.frG, r.frA, fun j a m2 h1 h2 h3 => ?_⟩
  by_cases ej : i = j
  · subst ej
    rw [List.getElem?_set, if_pos rfl, if_pos (List.getElem?_eq_some_iff.mp hm).1] at h2
    cases h2
    obtain ⟨z1, z2⟩ := r.ok i a m h1 hm hg
    exact ⟨z1, h _ z2⟩
  · rw [List.getElem?_set, if_neg ej] at h2
    exact r.ok j a m2 h1 h2 h3
/-- the tree of a cell's content -/
def MO.fz (a : Addr) : MO → D
  | .gone => .ref a
  | .lst ds => .lst ds
  | .dic ds => .dic ds
  | .dit _ => .ref a
  | .ins C fs => .obj a C fs
theorem MOk.dat {m : MO} (h : MOk K G as m (some o)) (hp : G p = some o) : Dat K G as (.ref p) (m.fz p) := by
  cases m with
  | gone => exact .ref p
  | lst ds => obtain ⟨vs, e, h⟩ := h; cases e; exact .lst hp h
  | dic ds => obtain ⟨vs, e, h⟩ := h; cases e; exact .dic (.inl hp) h
  | dit ds => exact .ref p
  | ins C fs => obtain ⟨dx, vs, e, h⟩ := h; cases e; exact .obj hp h
/-- a cell is settled -/
theorem Rep.settle {i : Nat} {m : MO} (r : Rep K Φ G as μ H) (ha : as[i]? = some p) (hm : μ[i]? = some m) (hg : m ≠ .gone) : ∃ G', Gr G as G' as ∧ Rep K Φ G' as (μ.set i .gone) H ∧ Dat K G' as (.ref p) (m.fz p) := by
  obtain ⟨g0, hk⟩ := r.ok i p m ha hm hg
  obtain ⟨o, ho⟩ : ∃ o, H p = some o := by
    cases e : H p with
    | none => exact absurd e (r.there p (List.mem_of_getElem? ha))
    | some o => exact ⟨o, rfl⟩
  rw [ho] at hk
  have g : Gr G as (upd G p o) as := ⟨same_upd g0, List.prefix_refl _⟩
  refine ⟨upd G p o, g, ⟨fun b u e => ?_, by simp [r.len], r.nd, r.there, r.fr, fun a u e => ?_, r.frA, fun j a m2 h1 h2 h3 => ?_⟩, (hk.mono g).dat upd_same⟩
  · by_cases hb : b = p
    · subst hb; rw [upd_same] at e; rw [← e]; exact ho
    · rw [upd_ne hb] at e; exact r.same b u e
  · have ne : a ≠ p := fun z => by subst z; rw [r.frA a (List.mem_of_getElem? ha)] at e; cases e
    rw [upd_ne ne]; exact r.frG a u e
  · by_cases ej : i = j
    · subst ej
      rw [List.getElem?_set, if_pos rfl, if_pos (List.getElem?_eq_some_iff.mp hm).1] at h2
      cases h2
      exact absurd rfl h3
    · rw [List.getElem?_set, if_neg ej] at h2
      have ne : a ≠ p := fun z => by subst z; exact ej (nd_at r.nd ha h1)
      obtain ⟨z1, z2⟩ := r.ok j a m2 h1 h2 h3
      rw [upd_ne ne]
      exact ⟨z1, z2.mono g⟩
/-- more is kept aside -/
theorem Rep.aside (r : Rep K Φ G as μ H) (h : H p = none) : Rep K (upd Φ p o) G as μ (upd H p o) := by
  refine ⟨same_upd3 r.same (r.gfree h), r.len, r.nd, fun a m => ?_, same_upd2 r.fr h, fun a u e => ?_, fun a m => ?_, fun i a m h1 h2 h3 => ?_⟩
  · have ne : a ≠ p := fun e => r.there a m (e ▸ h)
    rw [upd_ne ne]; exact r.there a m
  · by_cases ha : a = p
    · subst ha; exact r.gfree h
    · rw [upd_ne ha] at e; exact r.frG a u e
  · have ne : a ≠ p := fun e => r.there a m (e ▸ h)
    rw [upd_ne ne]; exact r.frA a m
  · have ne : a ≠ p := fun e => r.there a (List.mem_of_getElem? h1) (e ▸ h)
    rw [upd_ne ne]; exact r.ok i a m h1 h2 h3
/-- what is kept aside is changed -/
theorem Rep.asideUpd {o' : HO} (r : Rep K (upd Φ p o) G as μ H) : Rep K (upd Φ p o') G as μ (upd H p o') := by
  have gp : G p = none := r.frG p o upd_same
  have ap : p ∉ as := fun m => by
    have := r.frA p m
    rw [upd_same] at this; cases this
  refine ⟨same_upd3 r.same gp, r.len, r.nd, fun a m => ?_, fun b u e => ?_, fun a u e => ?_, fun a m => ?_, fun i a m h1 h2 h3 => ?_⟩
  · have ne : a ≠ p := fun e => ap (e ▸ m)
    rw [upd_ne ne]; exact r.there a m
  · by_cases hb : b = p
    · subst hb; rw [upd_same] at e ⊢; exact e
    · rw [upd_ne hb] at e ⊢
      exact r.fr b u (by rw [upd_ne hb]; exact e)
  · by_cases ha : a = p
    · subst ha; exact gp
    · rw [upd_ne ha] at e; exact r.frG a u (by rw [upd_ne ha]; exact e)
  · have ne : a ≠ p := fun e => ap (e ▸ m)
    have := r.frA a m
    rw [upd_ne ne] at this ⊢; exact this
  · have ne : a ≠ p := fun e => ap (e ▸ List.mem_of_getElem? h1)
    rw [upd_ne ne]; exact r.ok i a m h1 h2 h3
theorem Rep.asideUpd' {o' : HO} (r : Rep K (upd Φ p o) G as μ H) : Rep K (upd Φ p o') G as μ (upd H p o') := r.asideUpd
/-- what was kept aside comes back, settled -/
theorem Rep.back (r : Rep K (upd Φ p o) G as μ H) (hΦ : Φ p = none) : Gr G as (upd G p o) as ∧ Rep K Φ (upd G p o) as μ H := by
  have gp : G p = none := r.frG p o upd_same
  have g : Gr G as (upd G p o) as := ⟨same_upd gp, List.prefix_refl _⟩
  have ho : H p = some o := r.fr p o upd_same
  refine ⟨g, fun b u e => ?_, r.len, r.nd, r.there, fun b u e => r.fr b u ?_, fun a u e => ?_, fun a m => ?_, fun i a m h1 h2 h3 => ?_⟩
  · by_cases hb : b = p
    · subst hb; rw [upd_same] at e; rw [← e]; exact ho
    · rw [upd_ne hb] at e; exact r.same b u e
  · rw [upd_ne (ne_of_none e hΦ)]; exact e
  · have ne : a ≠ p := ne_of_none e hΦ
    rw [upd_ne ne]; exact r.frG a u (by rw [upd_ne ne]; exact e)
  · have ne : a ≠ p := fun e => by
      have := r.frA a m
      rw [e, upd_same] at this; cases this
    have := r.frA a m
    rw [upd_ne ne] at this; exact this
  · have ne : a ≠ p := fun e => by
      have := r.frA a (List.mem_of_getElem? h1)
      rw [e, upd_same] at this; cases this
    obtain ⟨z1, z2⟩ := r.ok i a m h1 h2 h3
    rw [upd_ne ne]
    exact ⟨z1, z2.mono g⟩
/-- .. or as a cell -/
theorem Rep.backCell {m : MO} (r : Rep K (upd Φ p o) G as μ H) (hΦ : Φ p = none) (hm : MOk K G as m (some o)) : Gr G as G (as ++ [p]) ∧ Rep K Φ G (as ++ [p]) (μ ++ [m]) H ∧ (as ++ [p])[μ.length]? = some p := by
  have gp : G p = none := r.frG p o upd_same
  have ap : p ∉ as := fun m => by
    have := r.frA p m
    rw [upd_same] at this; cases this
  have ho : H p = some o := r.fr p o upd_same
  have g : Gr G as G (as ++ [p]) := ⟨Same.refl G, List.prefix_append _ _⟩
  refine ⟨g, ⟨r.same, by simp [r.len], ?_, fun a m => ?_, fun b u e => r.fr b u (by rw [upd_ne (ne_of_none e hΦ)]; exact e), fun a u e => r.frG a u (by rw [upd_ne (ne_of_none e hΦ)]; exact e), fun a m => ?_, fun i a m' h1 h2 h3 => ?_⟩, by rw [← r.len]; simp⟩
  · rw [List.nodup_append]
    refine ⟨r.nd, by simp, fun a ha b hb => ?_⟩
    have e : b = p := by simpa using hb
    subst e
    exact fun z => ap (z ▸ ha)
  · rcases List.mem_append.mp m with m | m
    · exact r.there a m
    · have e : a = p := by simpa using m
      subst e; rw [ho]; simp
  · rcases List.mem_append.mp m with m | m
    · have ne : a ≠ p := fun e => ap (e ▸ m)
      have := r.frA a m
      rw [upd_ne ne] at this; exact this
    · have e : a = p := by simpa using m
      subst e; exact hΦ
  · by_cases hi : i < as.length
    · rw [List.getElem?_append_left hi] at h1
      rw [List.getElem?_append_left (by rw [← r.len]; exact hi)] at h2
      obtain ⟨z1, z2⟩ := r.ok i a m' h1 h2 h3
      exact ⟨z1, z2.mono g⟩
    · have hi' : i = as.length := by
        have := (List.getElem?_eq_some_iff.mp h1).1
        simp at this; omega
      subst hi'
      have e1 : p = a := by simpa using h1
      have e2 : m = m' := by
        have := h2
        rw [r.len] at this
        simpa using this
      subst e1 e2
      rw [ho]
      exact ⟨gp, hm.mono g⟩
end

/-! ### which cells a tree names -/
mutual
def D.cl (n : Nat) : D → Bool
  | .cell i => decide (i < n)
  | .tup xs => D.clL n xs
  | .lst xs => D.clL n xs
  | .lsk xs => D.clL n xs
  | .dic kvs => D.clK n kvs
  | .obj _ _ fs => D.clF n fs
  | _ => true
def D.clL (n : Nat) : List D → Bool
  | [] => true
  | d :: ds => D.cl n d && D.clL n ds
def D.clK (n : Nat) : List (Key × D) → Bool
  | [] => true
  | (_, d) :: ds => D.cl n d && D.clK n ds
def D.clF (n : Nat) : List (Str × D) → Bool
  | [] => true
  | (_, d) :: ds => D.cl n d && D.clF n ds
end
mutual
theorem Dat.down {K : PySem.W.Frag} {G : Hp} {as : List Addr} {n : Nat} : ∀ {v : V} {d : D}, Dat K G as v d → D.cl n d = true → Dat K G (as.take n) v d
  | _, _, .non, _ => .non
  | _, _, .bl b, _ => .bl b
  | _, _, .int i, _ => .int i
  | _, _, .str x, _ => .str x
  | _, _, .ty n, _ => .ty n
  | _, _, .ref a, _ => .ref a
  | _, _, .cell h, c => .cell (by
      have c' := of_decide_eq_true (by simpa [D.cl] using c)
      rw [List.getElem?_take, if_pos c']; exact h)
  | _, _, .tup h hs, c => .tup h (Dats.down hs (by simpa [D.cl] using c))
  | _, _, .lst h hs, c => .lst h (Dats.down hs (by simpa [D.cl] using c))
  | _, _, .lsk h hs, c => .lsk h (Dats.down hs (by simpa [D.cl] using c))
  | _, _, .dic h hs, c => .dic h (DatK.down hs (by simpa [D.cl] using c))
  | _, _, .obj h hs, c => .obj h (DatF.down hs (by simpa [D.cl] using c))
theorem Dats.down {K : PySem.W.Frag} {G : Hp} {as : List Addr} {n : Nat} : ∀ {v : List V} {d : List D}, Dats K G as v d → D.clL n d = true → Dats K G (as.take n) v d
  | _, _, .nil, _ => .nil
  | _, _, .cons h t, c => by
    rw [D.clL, Bool.and_eq_true] at c
    exact .cons (Dat.down h c.1) (Dats.down t c.2)
theorem DatK.down {K : PySem.W.Frag} {G : Hp} {as : List Addr} {n : Nat} : ∀ {v : List (Key × V)} {d : List (Key × D)}, DatK K G as v d → D.clK n d = true → DatK K G (as.take n) v d
  | _, _, .nil, _ => .nil
  | _, _, .cons h t, c => by
    rw [D.clK, Bool.and_eq_true] at c
    exact .cons (Dat.down h c.1) (DatK.down t c.2)
theorem DatF.down {K : PySem.W.Frag} {G : Hp} {as : List Addr} {n : Nat} : ∀ {v : List (Str × V)} {d : List (Str × D)}, DatF K G as v d → D.clF n d = true → DatF K G (as.take n) v d
  | _, _, .nil, _ => .nil
  | _, _, .cons h t, c => by
    rw [D.clF, Bool.and_eq_true] at c
    exact .cons (Dat.down h c.1) (DatF.down t c.2)
end
def MO.cl (n : Nat) : MO → Bool
  | .gone => true
  | .lst ds => D.clL n ds
  | .dic ds => D.clK n ds
  | .dit ds => D.clL n (ds.map (·.2))
  | .ins _ fs => D.clF n fs
theorem MOk.down {K : PySem.W.Frag} {G : Hp} {as : List Addr} {n : Nat} : ∀ {m : MO} {o : Option HO}, MOk K G as m o → m.cl n = true → MOk K G (as.take n) m o
  | .gone, _, _, _ => trivial
  | .lst _, _, ⟨vs, e, h⟩, c => ⟨vs, e, h.down c⟩
  | .dic _, _, ⟨vs, e, h⟩, c => ⟨vs, e, h.down c⟩
  | .dit _, _, ⟨vs, e, k, h⟩, c => ⟨vs, e, k, h.down c⟩
  | .ins _ _, _, ⟨dx, vs, e, h⟩, c => ⟨dx, vs, e, h.down c⟩
theorem clL_iff {n : Nat} : ∀ {ds : List D}, D.clL n ds = true ↔ ∀ d ∈ ds, D.cl n d = true
  | [] => by simp [D.clL]
  | d :: ds => by simp [D.clL, clL_iff (ds := ds)]
theorem clK_iff {n : Nat} : ∀ {ds : List (Key × D)}, D.clK n ds = true ↔ ∀ d ∈ ds, D.cl n d.2 = true
  | [] => by simp [D.clK]
  | d :: ds => by simp [D.clK, clK_iff (ds := ds)]
theorem Rep.drop {K : PySem.W.Frag} {Φ G : Hp} {as : List Addr} {μ : Mu} {H : Hp} {n : Nat} (r : Rep K Φ G as μ H) (h : ∀ m ∈ μ.take n, MO.cl n m = true) : Rep K Φ G (as.take n) (μ.take n) H := by
  refine ⟨r.same, by simp [r.len], r.nd.sublist (List.take_sublist _ _), fun a m => r.there a (List.mem_of_mem_take m), r.fr, r.frG, fun a m => r.frA a (List.mem_of_mem_take m), fun i a m h1 h2 h3 => ?_⟩
  have hm := List.mem_of_getElem? h2
  rw [List.getElem?_take] at h1 h2
  split at h1
  · rename_i hi
    rw [if_pos hi] at h2
    obtain ⟨z1, z2⟩ := r.ok i a m h1 h2 h3
    exact ⟨z1, z2.down (h m hm)⟩
  · cases h1
/-! ### steps of the mind -/
/-- slots forgotten -/
theorem Ghost.forget {lo : Nat} {ρ ρ1 : Rho} {μ : Mu} (hl : ρ1.length = ρ.length) (h : ∀ (i : Nat) (d : D), ρ1[i]? = some (some d) → ρ[i]? = some (some d)) : Ghost lo ρ μ ρ1 μ := fun K Φ G as σ H G0 as0 g _ sr rp => ⟨G, as, g, sr.forget hl h, rp⟩
/-- cells from n on are dropped -/
theorem Ghost.drop {lo : Nat} {ρ : Rho} {μ : Mu} (n : Nat) (hn : lo ≤ n) (hρ : ∀ (i : Nat) (d : D), ρ[i]? = some (some d) → D.cl n d = true) (hμ : ∀ m ∈ μ.take n, MO.cl n m = true) : Ghost lo ρ μ ρ (μ.take n) := fun K Φ G as σ H G0 as0 g hl sr rp => by
  refine ⟨G, as.take n, ⟨g.same, ?_⟩, ⟨sr.len, fun i d e => ?_⟩, rp.drop hμ⟩
  · obtain ⟨r, rfl⟩ := g.pre
    rw [List.take_append, List.take_of_length_le (by omega)]
    exact List.prefix_append _ _
  · obtain ⟨v, h1, h2⟩ := sr.at' i d e
    exact ⟨v, h1, h2.down (hρ i d e)⟩
/-- the cell c is settled: its list stands in the slots as a tree -/
theorem Ghost.settle {lo : Nat} {ρ : Rho} {μ : Mu} {c i : Nat} {ds : List D} (hc : μ[c]? = some (.lst ds)) (hi : ρ[i]? = some (some (.cell c))) : Ghost lo ρ μ (ρ.set i (some (.lst ds))) (μ.set c .gone) := fun K Φ G as σ H G0 as0 g hl sr rp => by
  obtain ⟨v, h1, h2⟩ := sr.at' i _ hi
  cases h2 with
  | @cell a _ ha =>
    obtain ⟨G', g', rp', d'⟩ := rp.settle ha hc (by simp)
    refine ⟨G', as, g.trans g', ?_, rp'⟩
    have := (sr.mono g').set i d'
    have e : σ.set i (some (V.ref a)) = σ := by
      apply List.ext_getElem?
      intro j
      rw [List.getElem?_set]
      by_cases hij : i = j
      · subst hij
        rw [if_pos rfl]
        have hl := (List.getElem?_eq_some_iff.mp h1).1
        rw [if_pos hl, h1]
      · rw [if_neg hij]
    rw [e] at this
    exact this

section
variable {X : Cx} {W : WX} {pos : Pos}
/-! ### displays -/
def dTup (ta : DTA) : DTE := fun ρ μ Q Ex => ta ρ μ (fun ds μ1 => ds.length ≤ sizeLine ∧ Q (.tup ds) μ1) Ex
def dLst (ta : DTA) : DTE := fun ρ μ Q Ex => ta ρ μ (fun ds μ1 => ds.length ≤ sizeLine ∧ Q (.lst ds) μ1) Ex
def dLstC (ta : DTA) : DTE := fun ρ μ Q Ex => ta ρ μ (fun ds μ1 => ds.length ≤ sizeLine ∧ Q (.cell μ1.length) (μ1 ++ [.lst ds])) Ex
variable {es : List Expr} {ta : DTA}
theorem de_tup {x1} (h : DA X W es ta) : DE X W (.Tuple es x1 pos) (dTup ta) := peI (pe_tup h) fun σ H R ⟨Φ, ρ, G, as, μ, Q, Ex, sr, rp, q, lx, k⟩ =>
  ⟨Φ, ρ, G, as, μ, _, Ex, sr, rp, q, lx, fun G1 as1 μ1 H1 vs ds g1 rp1 d1 ⟨hl, q1⟩ => ⟨by rw [d1.length]; exact hl, fun p hp => by
    obtain ⟨g2, rp2⟩ := rp1.grow (o := .tup vs) hp
    exact k _ _ _ _ _ _ (g1.trans g2) rp2 (.tup (SqT.of upd_same) (d1.mono g2)) q1⟩⟩
theorem de_lst (h : DA X W es ta) : DE X W (.List es pos) (dLst ta) := peI (pe_lst h) fun σ H R ⟨Φ, ρ, G, as, μ, Q, Ex, sr, rp, q, lx, k⟩ =>
  ⟨Φ, ρ, G, as, μ, _, Ex, sr, rp, q, lx, fun G1 as1 μ1 H1 vs ds g1 rp1 d1 ⟨hl, q1⟩ => ⟨by rw [d1.length]; exact hl, fun p hp => by
    obtain ⟨g2, rp2⟩ := rp1.grow (o := .lst vs) hp
    exact k _ _ _ _ _ _ (g1.trans g2) rp2 (.lst upd_same (d1.mono g2)) q1⟩⟩
theorem de_lstC (h : DA X W es ta) : DE X W (.List es pos) (dLstC ta) := peI (pe_lst h) fun σ H R ⟨Φ, ρ, G, as, μ, Q, Ex, sr, rp, q, lx, k⟩ =>
  ⟨Φ, ρ, G, as, μ, _, Ex, sr, rp, q, lx, fun G1 as1 μ1 H1 vs ds g1 rp1 d1 ⟨hl, q1⟩ => ⟨by rw [d1.length]; exact hl, fun p hp => by
    obtain ⟨g2, rp2, hat⟩ := rp1.newCell (o := .lst vs) (m := .lst ds) hp ⟨vs, rfl, d1⟩
    exact k _ _ _ _ _ _ (g1.trans g2) rp2 (.cell hat) q1⟩⟩
end

/-! ### what is walked -/
def WalksD (K : PySem.W.Frag) (G : Hp) (as : List Addr) (J : It) (ds : List D) : Prop :=
  ∀ (i : Nat) (Φ G' : Hp) (as' : List Addr) (μ' : Mu) (H' : Hp), Gr G as G' as' → Rep K Φ G' as' μ' H' →
    (∀ d, ds[i]? = some d → J.go i H' ∧ ∀ x H'', J.yld i H' x H'' → ∃ G'', Gr G' as' G'' as' ∧ Rep K Φ G'' as' μ' H'' ∧ Dat K G'' as' x d) ∧ (ds.length ≤ i → J.stop i H')
theorem Dats.get {K : PySem.W.Frag} {G : Hp} {as : List Addr} : ∀ {vs : List V} {ds : List D} {i : Nat} {d : D}, Dats K G as vs ds → ds[i]? = some d → ∃ v, vs[i]? = some v ∧ Dat K G as v d
  | _, _, 0, d, .cons h t, e => by simp at e; subst e; exact ⟨_, rfl, h⟩
  | _, _, i + 1, d, .cons h t, e => Dats.get (i := i) t (by simpa using e)
theorem Dats.nth {K : PySem.W.Frag} {G : Hp} {as : List Addr} : ∀ {vs : List V} {ds : List D} {i : Nat} {v : V}, Dats K G as vs ds → vs[i]? = some v → ∃ d, ds[i]? = some d ∧ Dat K G as v d
  | _, _, 0, v, .cons h t, e => by simp at e; subst e; exact ⟨_, rfl, h⟩
  | _, _, i + 1, v, .cons h t, e => Dats.nth (i := i) t (by simpa using e)
theorem Dats.append {K : PySem.W.Frag} {G : Hp} {as : List Addr} : ∀ {vs : List V} {ds : List D} {ws : List V} {es : List D}, Dats K G as vs ds → Dats K G as ws es → Dats K G as (vs ++ ws) (ds ++ es)
  | _, _, _, _, .nil, h => h
  | _, _, _, _, .cons h t, h' => .cons h (Dats.append t h')
abbrev DTI := Rho → Mu → (List D → Mu → Prop) → DX → Prop
def upI (K : PySem.W.Frag) (W : WX) (di : DTI) : TI := fun σ H R => ∃ (Φ : Hp) (ρ : Rho) (G : Hp) (as : List Addr) (μ : Mu) (Q : List D → Mu → Prop) (Ex : DX), SRel K G as σ ρ ∧ Rep K Φ G as μ H ∧ di ρ μ Q Ex ∧ LX K W Φ G as σ Ex ∧
  ∀ (G' : Hp) (as' : List Addr) (μ' : Mu) (H' : Hp) (J : It) (ds : List D), Gr G as G' as' → Rep K Φ G' as' μ' H' → WalksD K G' as' J ds → Q ds μ' → R J H'
abbrev DI (X : Cx) (W : WX) (tg iter : Expr) (di : DTI) : Prop := PI X tg iter (upI X.K W di)
theorem piI {X : Cx} {tg e : Expr} {t t' : TI} (h : PI X tg e t) (i : ∀ σ H R, t' σ H R → t σ H R) : PI X tg e t' := ⟨fun pins s σ H R I q => h.run pins s σ H R I (i σ H R q)⟩
theorem walks_list' {K : PySem.W.Frag} {G : Hp} {as : List Addr} {p : Addr} {vs : List V} {ds : List D} (h : SqL K G p vs) (hs : Dats K G as vs ds) : WalksD K G as (Itl K p) ds := fun i Φ G' as' μ' H' g rp => by
  have q : SqL K H' p vs := (g.same.trans rp.same).seq h
  refine ⟨fun d e => ?_, fun hl => ⟨vs, q, by rw [hs.length]; exact hl⟩⟩
  obtain ⟨v, hv, hd⟩ := hs.get e
  refine ⟨⟨vs, v, q, hv⟩, fun x H'' ⟨e1, e2⟩ => ?_⟩
  subst e1
  have e3 := e2 vs q
  rw [hv] at e3
  cases e3
  exact ⟨G', Gr.refl _ _, rp, hd.mono g⟩
theorem walks_tup {K : PySem.W.Frag} {G : Hp} {as : List Addr} {p : Addr} {vs : List V} {ds : List D} (h : SqT K G p vs) (hs : Dats K G as vs ds) : WalksD K G as (Itt K p) ds := fun i Φ G' as' μ' H' g rp => by
  have q : SqT K H' p vs := Same.sqT (g.same.trans rp.same) h
  refine ⟨fun d e => ?_, fun hl => ⟨vs, q, by rw [hs.length]; exact hl⟩⟩
  obtain ⟨v, hv, hd⟩ := hs.get e
  refine ⟨⟨vs, v, q, hv⟩, fun x H'' ⟨e1, e2⟩ => ?_⟩
  subst e1
  have e3 := e2 vs q
  rw [hv] at e3
  cases e3
  exact ⟨G', Gr.refl _ _, rp, hd.mono g⟩
def rngD (lo : Int) (n : Nat) : List D := (List.range n).map fun i : Nat => D.int (lo + (i : Int))
theorem walks_range {K : PySem.W.Frag} {G : Hp} {as : List Addr} {lo : Int} {n : Nat} : WalksD K G as (Itr lo n) (rngD lo n) := fun i Φ G' as' μ' H' g rp => by
  refine ⟨fun d e => ?_, fun hl => by show n ≤ i; simpa [rngD] using hl⟩
  have hi : i < n := by
    have := (List.getElem?_eq_some_iff.mp e).1
    simpa [rngD] using this
  have e2 : d = .int (lo + i) := by
    unfold rngD at e
    rw [List.getElem?_map, List.getElem?_range hi] at e
    exact (Option.some.inj e).symm
  subst e2
  refine ⟨hi, fun x H'' ⟨e1, e2⟩ => ?_⟩
  subst e1 e2
  exact ⟨G', Gr.refl _ _, rp, .int _⟩
section
variable {X : Cx} {W : WX} {pos p : Pos} {tg a b e : Expr} {da : DTE} {ta : DTA}
/-- over a settled list; over a settled tuple -/
def diL (te : DTE) : DTI := fun ρ μ Q Ex => te ρ μ (fun d μ1 => ∃ ds, d = .lst ds ∧ Q ds μ1) Ex
def diT (te : DTE) : DTI := fun ρ μ Q Ex => te ρ μ (fun d μ1 => ∃ ds, d = .tup ds ∧ Q ds μ1) Ex
def diR1 (ta : DTA) : DTI := fun ρ μ Q Ex => ta ρ μ (fun xs μ1 => ∃ j : Int, xs = [.int j] ∧ (-(2 ^ 62) ≤ j ∧ j < 2 ^ 62) ∧ Q (rngD 0 j.toNat) μ1) Ex
def diR2 (ta : DTA) : DTI := fun ρ μ Q Ex => ta ρ μ (fun xs μ1 => ∃ i j : Int, xs = [.int i, .int j] ∧ (-(2 ^ 62) ≤ i ∧ i < 2 ^ 62 ∧ -(2 ^ 62) ≤ j ∧ j < 2 ^ 62) ∧ Q (rngD i (j - i).toNat) μ1) Ex
theorem di_list (h : DE X W e da) : DI X W tg e (diL da) := piI (pi_list h) fun σ H R ⟨Φ, ρ, G, as, μ, Q, Ex, sr, rp, q, lx, k⟩ =>
  ⟨Φ, ρ, G, as, μ, _, Ex, sr, rp, q, lx, fun G1 as1 μ1 H1 v d g1 rp1 d1 ⟨ds, e, q1⟩ => by
    subst e
    cases d1 with
    | lst hL hs => exact ⟨_, rfl, ⟨_, SqL.of (rp1.same _ _ hL)⟩, k _ _ _ _ _ _ g1 rp1 (walks_list' (SqL.of hL) hs) q1⟩⟩
def diLK (te : DTE) : DTI := fun ρ μ Q Ex => te ρ μ (fun d μ1 => ∃ ds, d = .lsk ds ∧ Q ds μ1) Ex
theorem di_listK (h : DE X W e da) : DI X W tg e (diLK da) := piI (pi_list h) fun σ H R ⟨Φ, ρ, G, as, μ, Q, Ex, sr, rp, q, lx, k⟩ =>
  ⟨Φ, ρ, G, as, μ, _, Ex, sr, rp, q, lx, fun G1 as1 μ1 H1 v d g1 rp1 d1 ⟨ds, e, q1⟩ => by
    subst e
    cases d1 with
    | lsk hL hs => exact ⟨_, rfl, ⟨_, rp1.same.seq hL⟩, k _ _ _ _ _ _ g1 rp1 (walks_list' hL hs) q1⟩⟩
theorem di_tup (h : DE X W e da) : DI X W tg e (diT da) := piI (pi_tup h) fun σ H R ⟨Φ, ρ, G, as, μ, Q, Ex, sr, rp, q, lx, k⟩ =>
  ⟨Φ, ρ, G, as, μ, _, Ex, sr, rp, q, lx, fun G1 as1 μ1 H1 v d g1 rp1 d1 ⟨ds, e, q1⟩ => by
    subst e
    cases d1 with
    | tup hL hs => exact ⟨_, rfl, ⟨_, Same.sqT rp1.same hL⟩, k _ _ _ _ _ _ g1 rp1 (walks_tup hL hs) q1⟩⟩
theorem dats1 {K : PySem.W.Frag} {G : Hp} {as : List Addr} {xs : List V} {d : D} (h : Dats K G as xs [d]) : ∃ v, xs = [v] ∧ Dat K G as v d := by
  cases h with
  | cons h t => cases t; exact ⟨_, rfl, h⟩
theorem dats2 {K : PySem.W.Frag} {G : Hp} {as : List Addr} {xs : List V} {d d' : D} (h : Dats K G as xs [d, d']) : ∃ v w, xs = [v, w] ∧ Dat K G as v d ∧ Dat K G as w d' := by
  cases h with
  | cons h t => cases t with
    | cons h' t => cases t; exact ⟨_, _, rfl, h, h'⟩
theorem dat_int {K : PySem.W.Frag} {G : Hp} {as : List Addr} {v : V} {c : Int} (h : Dat K G as v (.int c)) : v = .int c := by cases h; rfl
theorem dat_str {K : PySem.W.Frag} {G : Hp} {as : List Addr} {v : V} {c : Str} (h : Dat K G as v (.str c)) : v = .str c := by cases h; rfl
theorem dat_non {K : PySem.W.Frag} {G : Hp} {as : List Addr} {v : V} (h : Dat K G as v .non) : v = .non := by cases h; rfl
theorem dat_ty {K : PySem.W.Frag} {G : Hp} {as : List Addr} {v : V} {n : String} (h : Dat K G as v (.ty n)) : v = .ty n := by cases h; rfl
theorem dat_ref {K : PySem.W.Frag} {G : Hp} {as : List Addr} {v : V} {n : Addr} (h : Dat K G as v (.ref n)) : v = .ref n := by cases h; rfl
theorem di_range1 (hm : X.mg "range" = none) (ha : DA X W [a] ta) (hg : Gl X "range" := by rfl) (hs : starEach [a] X.env = [(false, eval a X.env)] := by rfl) : DI X W tg (.Call (.Name "range" p) [a] [] pos) (diR1 ta) := piI (pi_range1 hg hm ha hs) fun σ H R ⟨Φ, ρ, G, as, μ, Q, Ex, sr, rp, q, lx, k⟩ =>
  ⟨Φ, ρ, G, as, μ, _, Ex, sr, rp, q, lx, fun G1 as1 μ1 H1 vs ds g1 rp1 d1 ⟨j, e, hj, q1⟩ => by
    subst e
    obtain ⟨v, rfl, hv⟩ := dats1 d1
    exact ⟨j, by rw [dat_int hv], hj.1, hj.2, k _ _ _ _ _ _ g1 rp1 walks_range q1⟩⟩
theorem di_range2 (hm : X.mg "range" = none) (ha : DA X W [a, b] ta) (hg : Gl X "range" := by rfl) (hs : starEach [a, b] X.env = [(false, eval a X.env), (false, eval b X.env)] := by rfl) (hs2 : starEach [b] X.env = [(false, eval b X.env)] := by rfl) : DI X W tg (.Call (.Name "range" p) [a, b] [] pos) (diR2 ta) := piI (pi_range2 hg hm ha hs hs2) fun σ H R ⟨Φ, ρ, G, as, μ, Q, Ex, sr, rp, q, lx, k⟩ =>
  ⟨Φ, ρ, G, as, μ, _, Ex, sr, rp, q, lx, fun G1 as1 μ1 H1 vs ds g1 rp1 d1 ⟨i, j, e, hj, q1⟩ => by
    subst e
    obtain ⟨v, w, rfl, hv, hw⟩ := dats2 d1
    exact ⟨i, j, by rw [dat_int hv, dat_int hw], hj, k _ _ _ _ _ _ g1 rp1 walks_range q1⟩⟩

/-! ### for -/
def forR (g : DTG) (tb : DTS) : List D → DTS
  | [] => fun E ρ μ => E.nx ρ μ
  | d :: ds => fun E ρ μ => ∃ N : Rho → Mu → Prop, (∀ ρ μ, N ρ μ → forR g tb ds E ρ μ) ∧ g d ρ μ fun ρ1 μ1 => tb { lo := μ.length, nx := N, rt := E.rt, ex := E.ex, bk := E.nx, ct := N } ρ1 μ1
def dFor (di : DTI) (g : DTG) (tb : DTS) : DTS := fun E ρ μ => di ρ μ (fun ds μ1 => forR g tb ds E ρ μ1) (fun cls μ1 => E.ex cls ρ μ1)
theorem ds_for {iter : Expr} {body : List Stmt} {di : DTI} {g : DTG} {tb : DTS} (hp : PassesOwn (model X.prog X.w) X.A X.env X.xe) (hc : X.calm = true) (hi : DI X W tg iter di) (hg : DG X tg g) (hb : DSs X W body tb)
    (hs : ∀ x, foldedSetIterable iter X.env x = pure x := by intro _; rfl) : DS X W (.For tg iter body [] pos) (dFor di g tb) := psI (ps_for hp hc hi hg hb hs) fun E σ H ⟨Φ, ρ, G0, as0, G, as, μ, DE, g0, sr, rp, q, le⟩ =>
  ⟨Φ, ρ, G, as, μ, _, _, sr, rp, q, le.lxg g0 sr, fun G1 as1 μ1 H1 J ds g1 rp1 wk q1 => by
    refine ⟨fun i m σ' H' => m = ds.length - i ∧ i ≤ ds.length ∧ ∃ ρ' G' as' μ', Gr G1 as1 G' as' ∧ SRel X.K G' as' σ' ρ' ∧ Rep X.K Φ G' as' μ' H' ∧ forR g tb (ds.drop i) DE ρ' μ', ⟨ds.length, by simp, Nat.zero_le _, ρ, G1, as1, μ1, Gr.refl _ _, sr.mono g1, rp1, q1⟩, ?_⟩
    rintro i m σ' H' ⟨rfl, hle, ρ', G', as', μ', g', sr', rp', q'⟩
    obtain ⟨w1, w2⟩ := wk i Φ G' as' μ' H' g' rp'
    by_cases hi : i < ds.length
    · obtain ⟨go, yl⟩ := w1 ds[i] (by simp [hi])
      refine .inr ⟨go, fun σ2 H2 => ∃ ρ2 G2 as2 μ2, Gr G1 as1 G2 as2 ∧ SRel X.K G2 as2 σ2 ρ2 ∧ Rep X.K Φ G2 as2 μ2 H2 ∧ forR g tb (ds.drop (i + 1)) DE ρ2 μ2, fun σ2 H2 z => ⟨ds.length - (i + 1), by omega, rfl, hi, z⟩, fun x H'' y => ?_⟩
      obtain ⟨G2, g2, rp2, d2⟩ := yl x H'' y
      rw [List.drop_eq_getElem_cons hi] at q'
      obtain ⟨N, hN, q'⟩ := q'
      refine ⟨Φ, ρ', G2, as', μ', _, _, sr'.mono g2, rp2, d2, q', fun G3 as3 μ3 H3 σ3 ρ3 g3 rp3 sr3 q3 => ?_⟩
      refine ⟨Φ, ρ3, G2, as', G3, as3, μ3, _, g3, sr3, rp3, q3, ⟨rp2.len, ?_, ?_, ?_, ?_, ?_⟩⟩
      · intro G4 as4 μ4 H4 σ4 ρ4 g4 rp4 sr4 q4
        exact ⟨ρ4, G4, as4, μ4, (g'.trans g2).trans g4, sr4, rp4, hN _ _ q4⟩
      · intro G4 as4 μ4 H4 v d g4 rp4 d4 q4
        exact le.rt _ _ _ _ _ _ ((g0.trans g1).trans ((g'.trans g2).trans g4)) rp4 d4 q4
      · intro G4 as4 μ4 H4 σ4 ρ4 x cls dx g4 rp4 sr4 er q4
        exact le.ex _ _ _ _ _ _ _ _ _ ((g0.trans g1).trans ((g'.trans g2).trans g4)) rp4 sr4 er q4
      · intro G4 as4 μ4 H4 σ4 ρ4 g4 rp4 sr4 q4
        exact le.nx _ _ _ _ _ _ ((g0.trans g1).trans ((g'.trans g2).trans g4)) rp4 sr4 q4
      · intro G4 as4 μ4 H4 σ4 ρ4 g4 rp4 sr4 q4
        exact ⟨ρ4, G4, as4, μ4, (g'.trans g2).trans g4, sr4, rp4, hN _ _ q4⟩
    · rw [List.drop_of_length_le (by omega)] at q'
      exact .inl ⟨w2 (by omega), le.nx _ _ _ _ _ _ ((g0.trans g1).trans g') rp' sr' q'⟩⟩
/-- by an invariant over the turn -/
theorem forR_inv {g : DTG} {tb : DTS} {ds : List D} {E : DEnds} {ρ : Rho} {μ : Mu} (I : Nat → Rho → Mu → Prop) (h0 : I 0 ρ μ)
    (hs : ∀ i d ρ μ, ds[i]? = some d → I i ρ μ → g d ρ μ fun ρ1 μ1 => tb { lo := μ.length, nx := I (i + 1), rt := E.rt, ex := E.ex, bk := E.nx, ct := I (i + 1) } ρ1 μ1) (hd : ∀ ρ μ, I ds.length ρ μ → E.nx ρ μ) : forR g tb ds E ρ μ := by
  have key : ∀ (n i : Nat) (ρ : Rho) (μ : Mu), n = ds.length - i → i ≤ ds.length → I i ρ μ → forR g tb (ds.drop i) E ρ μ := by
    intro n
    induction n with
    | zero =>
      intro i ρ μ hn hi h
      have e : i = ds.length := by omega
      subst e
      rw [List.drop_length]
      exact hd ρ μ h
    | succ n ih =>
      intro i ρ μ hn hi h
      have hlt : i < ds.length := by omega
      rw [List.drop_eq_getElem_cons hlt]
      exact ⟨I (i + 1), fun ρ' μ' z => ih (i + 1) ρ' μ' (by omega) hlt z, hs i ds[i] ρ μ (by simp [hlt]) h⟩
  exact key _ 0 ρ μ rfl (Nat.zero_le _) h0
end
end DL

/-! DLc: comprehensions, defs and their calls, instances, errors. -/
namespace DL
open PySem PySem.Spec PyProof.Rows L2

/-! ### comprehensions -/
/-- a target: a name, or names of a tuple -/
inductive Pt where
  | nm (i : Nat) | tp (is : List Nat)
def gNms : List Nat → TGs
  | [] => gNil
  | i :: is => gCons (gName i) (gNms is)
def Pt.g (K : PySem.W.Frag) : Pt → TG
  | .nm i => gName i
  | .tp is => gTup K is.length (gNms is)
def setAll {α : Type} (σ : List (Option α)) : List Nat → List α → List (Option α)
  | i :: is, v :: vs => setAll (σ.set i (some v)) is vs
  | _, _ => σ
def Pt.vs : Pt → List Nat
  | .nm i => [i]
  | .tp is => is
def wipeD (ρ : Rho) : List Nat → Rho
  | [] => ρ
  | v :: vs => (wipeD ρ vs).set v none
theorem wipe_srel {K : PySem.W.Frag} {G : Hp} {as : List Addr} {σ : L2.St} {ρ : Rho} (sr : SRel K G as σ ρ) : ∀ vs : List Nat, SRel K G as (wipe σ vs) (wipeD ρ vs)
  | [] => sr
  | v :: vs => (wipe_srel sr vs).setN v
theorem wipe_set {σ : L2.St} {i : Nat} {x : Option V} : ∀ {vs : List Nat}, i ∈ vs → wipe (σ.set i x) vs = wipe σ vs
  | [], h => by simp at h
  | v :: vs, h => by
    show (wipe (σ.set i x) vs).set v none = (wipe σ vs).set v none
    by_cases hi : i ∈ vs
    · rw [wipe_set hi]
    · have e : i = v := by simpa [hi] using h
      subst e
      have key : ∀ (vs : List Nat), i ∉ vs → wipe (σ.set i x) vs = (wipe σ vs).set i x := by
        intro vs
        induction vs with
        | nil => intro _; rfl
        | cons w ws ih =>
          intro hn
          have h1 : i ≠ w := fun e => hn (by simp [e])
          have h2 : i ∉ ws := fun e => hn (by simp [e])
          show (wipe (σ.set i x) ws).set w none = ((wipe σ ws).set w none).set i x
          rw [ih h2, List.set_comm _ _ h1]
      rw [key vs hi, List.set_set]
theorem wipe_wipe {σ : L2.St} : ∀ {vs : List Nat}, wipe (wipe σ vs) vs = wipe σ vs := by
  intro vs
  have key : ∀ (ws : List Nat), (∀ w ∈ ws, w ∈ vs) → wipe (wipe σ ws) vs = wipe σ vs := by
    intro ws
    induction ws with
    | nil => intro _; rfl
    | cons w ws ih =>
      intro h
      show wipe ((wipe σ ws).set w none) vs = _
      rw [wipe_set (h w (by simp)), ih fun x hx => h x (by simp [hx])]
  exact key vs fun _ h => h
theorem wipe_setAll : ∀ {is : List Nat} {vs : List Nat} {xs : List V} {σ : L2.St}, (∀ i ∈ is, i ∈ vs) → wipe (setAll σ is xs) vs = wipe σ vs
  | [], _, _, _, _ => by simp [setAll]
  | _ :: _, _, [], _, _ => by simp [setAll]
  | i :: is, vs, x :: xs, σ, h => by
    show wipe (setAll (σ.set i (some x)) is xs) vs = _
    rw [wipe_setAll fun j hj => h j (by simp [hj]), wipe_set (h i (by simp))]
theorem setAll_srel {K : PySem.W.Frag} {G : Hp} {as : List Addr} : ∀ {is : List Nat} {xs : List V} {ds : List D} {σ : L2.St} {ρ : Rho}, SRel K G as σ ρ → Dats K G as xs ds → SRel K G as (setAll σ is xs) (setAll ρ is ds)
  | [], _, _, _, _, sr, _ => by simpa [setAll] using sr
  | _ :: _, _, _, _, _, sr, .nil => by simpa [setAll] using sr
  | i :: is, _ :: _, _ :: _, _, _, sr, .cons h t => setAll_srel (is := is) (sr.set i h) t
theorem gNms_ok : ∀ {is : List Nat} {xs : List V} {σ : L2.St} {H : Hp} {Q : L2.St → Hp → Prop}, xs.length = is.length → Q (setAll σ is xs) H → gNms is xs σ H Q
  | [], [], _, _, _, _, h => ⟨rfl, h⟩
  | i :: is, x :: xs, σ, H, Q, hl, h => ⟨x, xs, rfl, gNms_ok (by simpa using hl) h⟩
/-- the block's slots behind the target's assignment -/
def Pt.at (pt : Pt) (d : D) (ρ : Rho) (Q : Rho → Prop) : Prop := match pt with
  | .nm i => Q (ρ.set i (some d))
  | .tp is => ∃ ds, d = .tup ds ∧ ds.length = is.length ∧ Q (setAll ρ is ds)
theorem Pt.ok {K : PySem.W.Frag} {pt : Pt} {d : D} {ρ : Rho} {Q : Rho → Prop} {Φ G : Hp} {as : List Addr} {μ : Mu} {H : Hp} {σ : L2.St} {v : V} {vs : List Nat} {R : L2.St → Hp → Prop} (sub : ∀ i ∈ pt.vs, i ∈ vs) (rp : Rep K Φ G as μ H) (sr : SRel K G as σ ρ) (hd : Dat K G as v d) (q : pt.at d ρ Q)
    (k : ∀ σ' ρ', SRel K G as σ' ρ' → wipe σ' vs = wipe σ vs → Q ρ' → R σ' H) : pt.g K v σ H R := by
  cases pt with
  | nm i => exact k _ _ (sr.set i hd) (wipe_set (sub i (by simp [Pt.vs]))) q
  | tp is =>
    obtain ⟨ds, rfl, hl, q⟩ := q
    cases hd with
    | tup hT hs => exact ⟨_, _, rfl, Same.sqT rp.same hT, hs.length.trans hl, gNms_ok (hs.length.trans hl) (k _ _ (setAll_srel sr hs) (wipe_setAll sub) q)⟩
theorem pg_nms {X : Cx} : ∀ {es : List Expr} {is : List Nat}, PGs X es (gNms is) → PGs X es (gNms is) := fun h => h
def never : DX := fun _ _ => False
abbrev W0 : WX := fun _ _ _ _ => False
def lcR (pt : Pt) (tt : DTT) (te : DTE) (ρ : Rho) (fin : List D → Mu → Prop) : List D → List D → Mu → Prop
  | [], acc, μ => fin acc μ
  | d :: ds, acc, μ => pt.at d ρ fun ρ2 => tt ρ2 μ (fun b μ2 => if b = true then te ρ2 μ2 (fun y μ3 => acc.length < sizeLine ∧ lcR pt tt te ρ fin ds (acc ++ [y]) μ3) never else lcR pt tt te ρ fin ds acc μ2) never
def dLc (di : DTI) (pt : Pt) (tt : DTT) (te : DTE) (vs : List Nat) : DTE := fun ρ μ Q Ex => di ρ μ (fun ds μ1 => lcR pt tt te (wipeD ρ vs) (fun acc μ2 => Q (.lst acc) μ2) ds [] μ1) Ex
def dLcC (di : DTI) (pt : Pt) (tt : DTT) (te : DTE) (vs : List Nat) : DTE := fun ρ μ Q Ex => di ρ μ (fun ds μ1 => lcR pt tt te (wipeD ρ vs) (fun acc μ2 => Q (.cell μ2.length) (μ2 ++ [.lst acc])) ds [] μ1) Ex
abbrev DTs (X : Cx) (W : WX) (ifs : List Expr) (dt : DTT) : Prop := PTs X ifs (upT X.K W dt)
def dYes : DTT := fun _ μ Q _ => Q true μ
section
variable {X : Cx} {W : WX} {pos : Pos}
theorem dts_nil : DTs X W [] dYes := ⟨fun pins s σ H R I ⟨Φ, ρ, G, as, μ, Q, Ex, sr, rp, q, lx, k⟩ => pts_nil.run pins s σ H R I (k G as μ H true (Gr.refl _ _) rp q)⟩
theorem dts_one {c : Expr} {t : DTT} (h : DT X W c t) : DTs X W [c] t := pts_one h
theorem lx0 {K : PySem.W.Frag} {W : WX} {Φ G : Hp} {as : List Addr} {σ : L2.St} : LX K W Φ G as σ never := fun _ _ _ _ _ _ _ _ _ _ h => h.elim
/-- the loop of a comprehension, whatever becomes of the list -/
theorem lc_ok {K : PySem.W.Frag} {Φ G : Hp} {as : List Addr} {μ : Mu} {H1 : Hp} {σ : L2.St} {ρ : Rho} {pt : Pt} {tt : DTT} {te : DTE} {vs : List Nat} {J : It} {ds : List D} {fin : List D → Mu → Prop} {Qf : Addr → Hp → Prop}
    (sub : ∀ i ∈ pt.vs, i ∈ vs) (rp : Rep K Φ G as μ H1) (sr : SRel K G as σ ρ) (wk : WalksD K G as J ds) (q : lcR pt tt te (wipeD ρ vs) fin ds [] μ)
    (k : ∀ (L : Addr) (G' : Hp) (as' : List Addr) (μ' : Mu) (H' : Hp) (vacc : List V) (acc : List D), Φ L = none → Gr G as G' as' → Rep K (upd Φ L (.lst vacc)) G' as' μ' H' → Dats K G' as' vacc acc → fin acc μ' → Qf L H') :
    ∀ L, H1 L = none → ∃ Wv : Nat → Nat → Hp → Prop, (∃ m, Wv 0 m (upd H1 L (.lst []))) ∧ ∀ i m H, Wv i m H →
      (J.stop i H ∧ Qf L H) ∨ (J.go i H ∧ ∃ Nx : Hp → Prop, (∀ H', Nx H' → ∃ m', m' < m ∧ Wv (i + 1) m' H') ∧ ∀ x H', J.yld i H x H' → pt.g K x (wipe σ vs) H' fun σ2 H2 => wipe σ2 vs = wipe σ vs ∧ upT K W0 tt σ2 H2 fun b H3 =>
        if b = true then up K W0 te σ2 H3 fun y H4 => ∃ acc, H4 L = some (.lst acc) ∧ acc.length < sizeLine ∧ Nx (upd H4 L (.lst (acc ++ [y]))) else Nx H3) := by
  intro L hL
  have pL : Φ L = none := rp.pfree hL
  refine ⟨fun i m H => m = ds.length - i ∧ i ≤ ds.length ∧ ∃ G' as' μ' vacc acc, Gr G as G' as' ∧ Rep K (upd Φ L (.lst vacc)) G' as' μ' H ∧ Dats K G' as' vacc acc ∧ lcR pt tt te (wipeD ρ vs) fin (ds.drop i) acc μ', ⟨ds.length, by simp, Nat.zero_le _, G, as, μ, [], [], Gr.refl _ _, rp.aside hL, .nil, q⟩, ?_⟩
  rintro i m H ⟨rfl, hle, G', as', μ', vacc, acc, g', rp', da', q'⟩
  obtain ⟨w1, w2⟩ := wk i _ G' as' μ' H g' rp'
  by_cases hi : i < ds.length
  · obtain ⟨go, yl⟩ := w1 ds[i] (by simp [hi])
    refine .inr ⟨go, fun H2 => ∃ G2 as2 μ2 vacc2 acc2, Gr G as G2 as2 ∧ Rep K (upd Φ L (.lst vacc2)) G2 as2 μ2 H2 ∧ Dats K G2 as2 vacc2 acc2 ∧ lcR pt tt te (wipeD ρ vs) fin (ds.drop (i + 1)) acc2 μ2, fun H2 z => ⟨ds.length - (i + 1), by omega, rfl, hi, z⟩, fun x H'' y => ?_⟩
    obtain ⟨G2, g2, rp2, d2⟩ := yl x H'' y
    rw [List.drop_eq_getElem_cons hi] at q'
    refine Pt.ok sub rp2 (wipe_srel (sr.mono (g'.trans g2)) vs) d2 q' fun σ3 ρ3 sr3 e3 q3 => ?_
    refine ⟨by rw [e3, wipe_wipe], ?_⟩
    refine ⟨_, ρ3, G2, as', μ', _, never, sr3, rp2, q3, lx0, fun G4 as4 μ4 H4 b g4 rp4 q4 => ?_⟩
    cases b with
    | false => exact iteF ⟨G4, as4, μ4, vacc, acc, (g'.trans g2).trans g4, rp4, da'.mono (g2.trans g4), by simpa using q4⟩
    | true =>
      rw [if_pos rfl] at q4
      refine iteT ⟨_, ρ3, G4, as4, μ4, _, never, sr3.mono g4, rp4, q4, lx0, fun G5 as5 μ5 H5 v d g5 rp5 d5 ⟨hz, q5⟩ => ?_⟩
      have dacc := da'.mono ((g2.trans g4).trans g5)
      exact ⟨vacc, rp5.fr L _ upd_same, by rw [dacc.length]; exact hz, G5, as5, μ5, vacc ++ [v], acc ++ [d], ((g'.trans g2).trans g4).trans g5, rp5.asideUpd', dacc.append (.cons d5 .nil), q5⟩
  · rw [List.drop_of_length_le (by omega)] at q'
    exact .inl ⟨w2 (by omega), k L G' as' μ' H vacc acc pL g' rp' da' q'⟩
theorem de_lcG {Fin : DQ → List D → Mu → Prop} {elt tg iter : Expr} {ifs : List Expr} {scope : Scope} {own : List (Str × Nat)} {di : DTI} {pt : Pt} {tt : DTT} {te : DTE} (hF : ∀ {Φ G : Hp} {as : List Addr} {L : Addr} {μ : Mu} {H : Hp} {vacc : List V} {acc : List D} {Q : DQ}, Φ L = none → Rep X.K (upd Φ L (.lst vacc)) G as μ H → Dats X.K G as vacc acc → Fin Q acc μ →
      ∃ G' as' μ' d, Gr G as G' as' ∧ Rep X.K Φ G' as' μ' H ∧ Dat X.K G' as' (.ref L) d ∧ Q d μ')
    (hc : X.calm = true) (hN : X.N.Nodup) (hi : DI X W tg iter di) (ok : BlkOk X.N X.env.scope scope own) (sub : ∀ i ∈ pt.vs, i ∈ own.map (·.2))
    (hg : ∀ (s : Shared) (H : Hp) (C : Addr) (cl : List (Str × Addr)) (fp : List Addr), PG (X.blk s H scope (compEnvC scope cl C X.env) fp) tg (pt.g X.K)) (ht : ∀ (s : Shared) (H : Hp) (C : Addr) (cl : List (Str × Addr)) (fp : List Addr), DTs (X.blk s H scope (compEnvC scope cl C X.env) fp) W0 ifs tt)
    (he : ∀ (s : Shared) (H : Hp) (C : Addr) (cl : List (Str × Addr)) (fp : List Addr), DE (X.blk s H scope (compEnvC scope cl C X.env) fp) W0 elt te) (hs : ∀ x, foldedSetIterable iter X.env x = pure x := by intro _; rfl) :
    DE X W (.ListComp elt [⟨tg, iter, ifs, 0⟩] scope pos) (fun ρ μ Q Ex => di ρ μ (fun ds μ1 => lcR pt tt te (wipeD ρ (own.map (·.2))) (Fin Q) ds [] μ1) Ex) :=
  peI (pe_lc hc hN hi ok hg ht he hs) fun σ H R ⟨Φ, ρ, G, as, μ, Q, Ex, sr, rp, q, lx, k⟩ =>
    ⟨Φ, ρ, G, as, μ, _, Ex, sr, rp, q, lx, fun G1 as1 μ1 H1 J ds g1 rp1 wk q1 => lc_ok sub rp1 (sr.mono g1) wk q1 fun L G' as' μ' H' vacc acc pL g' rp' da qf => by
      obtain ⟨G2, as2, μ2, d, g2, rp2, d2, q2⟩ := hF pL rp' da qf
      exact k G2 as2 μ2 H' (.ref L) d ((g1.trans g').trans g2) rp2 d2 q2⟩
section
variable {elt tg iter : Expr} {ifs : List Expr} {scope : Scope} {own : List (Str × Nat)} {di : DTI} {pt : Pt} {tt : DTT} {te : DTE}
theorem fin_frz {K : PySem.W.Frag} {Φ G : Hp} {as : List Addr} {L : Addr} {μ : Mu} {H : Hp} {vacc : List V} {acc : List D} {Q : DQ} (pL : Φ L = none) (rp : Rep K (upd Φ L (.lst vacc)) G as μ H) (da : Dats K G as vacc acc) (q : Q (.lst acc) μ) :
    ∃ G' as' μ' d, Gr G as G' as' ∧ Rep K Φ G' as' μ' H ∧ Dat K G' as' (.ref L) d ∧ Q d μ' := by
  obtain ⟨g, rp'⟩ := rp.back pL
  exact ⟨_, _, _, _, g, rp', .lst upd_same (da.mono g), q⟩
theorem fin_cell {K : PySem.W.Frag} {Φ G : Hp} {as : List Addr} {L : Addr} {μ : Mu} {H : Hp} {vacc : List V} {acc : List D} {Q : DQ} (pL : Φ L = none) (rp : Rep K (upd Φ L (.lst vacc)) G as μ H) (da : Dats K G as vacc acc) (q : Q (.cell μ.length) (μ ++ [.lst acc])) :
    ∃ G' as' μ' d, Gr G as G' as' ∧ Rep K Φ G' as' μ' H ∧ Dat K G' as' (.ref L) d ∧ Q d μ' := by
  obtain ⟨g, rp', hat⟩ := rp.backCell (m := .lst acc) pL ⟨vacc, rfl, da⟩
  exact ⟨_, _, _, _, g, rp', .cell hat, q⟩
theorem de_lc (hc : X.calm = true) (hN : X.N.Nodup) (hi : DI X W tg iter di) (ok : BlkOk X.N X.env.scope scope own) (sub : ∀ i ∈ pt.vs, i ∈ own.map (·.2))
    (hg : ∀ (s : Shared) (H : Hp) (C : Addr) (cl : List (Str × Addr)) (fp : List Addr), PG (X.blk s H scope (compEnvC scope cl C X.env) fp) tg (pt.g X.K)) (ht : ∀ (s : Shared) (H : Hp) (C : Addr) (cl : List (Str × Addr)) (fp : List Addr), DTs (X.blk s H scope (compEnvC scope cl C X.env) fp) W0 ifs tt)
    (he : ∀ (s : Shared) (H : Hp) (C : Addr) (cl : List (Str × Addr)) (fp : List Addr), DE (X.blk s H scope (compEnvC scope cl C X.env) fp) W0 elt te) (hs : ∀ x, foldedSetIterable iter X.env x = pure x := by intro _; rfl) :
    DE X W (.ListComp elt [⟨tg, iter, ifs, 0⟩] scope pos) (dLc di pt tt te (own.map (·.2))) := de_lcG (Fin := fun Q acc μ => Q (.lst acc) μ) (fun pL rp da q => fin_frz pL rp da q) hc hN hi ok sub hg ht he hs
theorem de_lcC (hc : X.calm = true) (hN : X.N.Nodup) (hi : DI X W tg iter di) (ok : BlkOk X.N X.env.scope scope own) (sub : ∀ i ∈ pt.vs, i ∈ own.map (·.2))
    (hg : ∀ (s : Shared) (H : Hp) (C : Addr) (cl : List (Str × Addr)) (fp : List Addr), PG (X.blk s H scope (compEnvC scope cl C X.env) fp) tg (pt.g X.K)) (ht : ∀ (s : Shared) (H : Hp) (C : Addr) (cl : List (Str × Addr)) (fp : List Addr), DTs (X.blk s H scope (compEnvC scope cl C X.env) fp) W0 ifs tt)
    (he : ∀ (s : Shared) (H : Hp) (C : Addr) (cl : List (Str × Addr)) (fp : List Addr), DE (X.blk s H scope (compEnvC scope cl C X.env) fp) W0 elt te) (hs : ∀ x, foldedSetIterable iter X.env x = pure x := by intro _; rfl) :
    DE X W (.ListComp elt [⟨tg, iter, ifs, 0⟩] scope pos) (dLcC di pt tt te (own.map (·.2))) := de_lcG (Fin := fun Q acc μ => Q (.cell μ.length) (μ ++ [MO.lst acc])) (fun pL rp da q => fin_cell pL rp da q) hc hN hi ok sub hg ht he hs
theorem ds_setLcG {Fin : DQ → List D → Mu → Prop} {i : Nat} {y : Str} {py spos : Pos} (hF : ∀ {Φ G : Hp} {as : List Addr} {L : Addr} {μ : Mu} {H : Hp} {vacc : List V} {acc : List D} {Q : DQ}, Φ L = none → Rep X.K (upd Φ L (.lst vacc)) G as μ H → Dats X.K G as vacc acc → Fin Q acc μ →
      ∃ G' as' μ' d, Gr G as G' as' ∧ Rep X.K Φ G' as' μ' H ∧ Dat X.K G' as' (.ref L) d ∧ Q d μ')
    (hc : X.calm = true) (hN : X.N.Nodup) (hy : X.N[i]? = some y) (hyl : X.env.scope.names.lookup y = some .local) (hsw : swapsWith (.ListComp elt [⟨tg, iter, ifs, 0⟩] scope pos) (some (.Name y py)) spos.line X.env = pure true)
    (hi : DI X W tg iter di) (ok : BlkOk X.N X.env.scope scope own) (sub : ∀ i ∈ pt.vs, i ∈ own.map (·.2))
    (hg : ∀ (s : Shared) (H : Hp) (C : Addr) (cl : List (Str × Addr)) (fp : List Addr), PG (X.blk s H scope (compEnvC scope cl C X.env) fp) tg (pt.g X.K)) (ht : ∀ (s : Shared) (H : Hp) (C : Addr) (cl : List (Str × Addr)) (fp : List Addr), DTs (X.blk s H scope (compEnvC scope cl C X.env) fp) W0 ifs tt)
    (he : ∀ (s : Shared) (H : Hp) (C : Addr) (cl : List (Str × Addr)) (fp : List Addr), DE (X.blk s H scope (compEnvC scope cl C X.env) fp) W0 elt te) (hs : ∀ x, foldedSetIterable iter X.env x = pure x := by intro _; rfl) :
    DS X W (.Assign [.Name y py] (.ListComp elt [⟨tg, iter, ifs, 0⟩] scope pos) spos) (dAsg (fun ρ μ Q Ex => di ρ μ (fun ds μ1 => lcR pt tt te (wipeD ρ (own.map (·.2))) (Fin Q) ds [] μ1) Ex) (hName i)) :=
  psI (ps_setLc hc hN hy hyl hsw hi ok hg ht he hs) fun E σ H ⟨Φ, ρ, G0, as0, G, as, μ, DE, g0, sr, rp, q, le⟩ =>
    ⟨Φ, ρ, G, as, μ, _, _, sr, rp, q, le.lxg g0 sr, fun G1 as1 μ1 H1 J ds g1 rp1 wk q1 => lc_ok sub rp1 (sr.mono g1) wk q1 fun L G' as' μ' H' vacc acc pL g' rp' da qf => by
      obtain ⟨G2, as2, μ2, d, g2, rp2, d2, q2⟩ := hF pL rp' da qf
      have gg := (g1.trans g').trans g2
      exact le.nx G2 as2 μ2 H' _ _ (g0.trans gg) rp2 ((sr.mono gg).set i d2) q2⟩
theorem ds_setLc {i : Nat} {y : Str} {py spos : Pos} (hc : X.calm = true) (hN : X.N.Nodup) (hy : X.N[i]? = some y) (hyl : X.env.scope.names.lookup y = some .local) (hsw : swapsWith (.ListComp elt [⟨tg, iter, ifs, 0⟩] scope pos) (some (.Name y py)) spos.line X.env = pure true)
    (hi : DI X W tg iter di) (ok : BlkOk X.N X.env.scope scope own) (sub : ∀ i ∈ pt.vs, i ∈ own.map (·.2))
    (hg : ∀ (s : Shared) (H : Hp) (C : Addr) (cl : List (Str × Addr)) (fp : List Addr), PG (X.blk s H scope (compEnvC scope cl C X.env) fp) tg (pt.g X.K)) (ht : ∀ (s : Shared) (H : Hp) (C : Addr) (cl : List (Str × Addr)) (fp : List Addr), DTs (X.blk s H scope (compEnvC scope cl C X.env) fp) W0 ifs tt)
    (he : ∀ (s : Shared) (H : Hp) (C : Addr) (cl : List (Str × Addr)) (fp : List Addr), DE (X.blk s H scope (compEnvC scope cl C X.env) fp) W0 elt te) (hs : ∀ x, foldedSetIterable iter X.env x = pure x := by intro _; rfl) :
    DS X W (.Assign [.Name y py] (.ListComp elt [⟨tg, iter, ifs, 0⟩] scope pos) spos) (dAsg (dLc di pt tt te (own.map (·.2))) (hName i)) := ds_setLcG (Fin := fun Q acc μ => Q (.lst acc) μ) (fun pL rp da q => fin_frz pL rp da q) hc hN hy hyl hsw hi ok sub hg ht he hs
theorem ds_setLcC {i : Nat} {y : Str} {py spos : Pos} (hc : X.calm = true) (hN : X.N.Nodup) (hy : X.N[i]? = some y) (hyl : X.env.scope.names.lookup y = some .local) (hsw : swapsWith (.ListComp elt [⟨tg, iter, ifs, 0⟩] scope pos) (some (.Name y py)) spos.line X.env = pure true)
    (hi : DI X W tg iter di) (ok : BlkOk X.N X.env.scope scope own) (sub : ∀ i ∈ pt.vs, i ∈ own.map (·.2))
    (hg : ∀ (s : Shared) (H : Hp) (C : Addr) (cl : List (Str × Addr)) (fp : List Addr), PG (X.blk s H scope (compEnvC scope cl C X.env) fp) tg (pt.g X.K)) (ht : ∀ (s : Shared) (H : Hp) (C : Addr) (cl : List (Str × Addr)) (fp : List Addr), DTs (X.blk s H scope (compEnvC scope cl C X.env) fp) W0 ifs tt)
    (he : ∀ (s : Shared) (H : Hp) (C : Addr) (cl : List (Str × Addr)) (fp : List Addr), DE (X.blk s H scope (compEnvC scope cl C X.env) fp) W0 elt te) (hs : ∀ x, foldedSetIterable iter X.env x = pure x := by intro _; rfl) :
    DS X W (.Assign [.Name y py] (.ListComp elt [⟨tg, iter, ifs, 0⟩] scope pos) spos) (dAsg (dLcC di pt tt te (own.map (·.2))) (hName i)) := ds_setLcG (Fin := fun Q acc μ => Q (.cell μ.length) (μ ++ [MO.lst acc])) (fun pL rp da q => fin_cell pL rp da q) hc hN hy hyl hsw hi ok sub hg ht he hs
end
/-- by an invariant over the turn: what is made so far -/
theorem lcR_inv {pt : Pt} {tt : DTT} {te : DTE} {ρ : Rho} {fin : List D → Mu → Prop} {ds : List D} {acc : List D} {μ : Mu} (I : Nat → List D → Mu → Prop) (h0 : I 0 acc μ)
    (hs : ∀ (i : Nat) (d : D) (acc : List D) (μ : Mu) (k : List D → Mu → Prop), ds[i]? = some d → I i acc μ → (∀ acc μ, I (i + 1) acc μ → k acc μ) →
      pt.at d ρ fun ρ2 => tt ρ2 μ (fun b μ2 => if b = true then te ρ2 μ2 (fun y μ3 => acc.length < sizeLine ∧ k (acc ++ [y]) μ3) never else k acc μ2) never)
    (hd : ∀ acc μ, I ds.length acc μ → fin acc μ) : lcR pt tt te ρ fin ds acc μ := by
  have key : ∀ (n i : Nat) (acc : List D) (μ : Mu), n = ds.length - i → i ≤ ds.length → I i acc μ → lcR pt tt te ρ fin (ds.drop i) acc μ := by
    intro n
    induction n with
    | zero =>
      intro i acc μ hn hi h
      have e : i = ds.length := by omega
      subst e
      rw [List.drop_length]
      exact hd acc μ h
    | succ n ih =>
      intro i acc μ hn hi h
      have hlt : i < ds.length := by omega
      rw [List.drop_eq_getElem_cons hlt]
      exact hs i ds[i] acc μ _ (by simp [hlt]) h fun acc' μ' z => ih (i + 1) acc' μ' (by omega) hlt z
  exact key _ 0 acc μ rfl (Nat.zero_le _) h0
end
end DL

/-! DLd: defs and their calls, instances, errors. -/
namespace DL
open PySem PySem.Spec PyProof.Rows L2

mutual
theorem Dat.cl {K : PySem.W.Frag} {G : Hp} {as : List Addr} : ∀ {v : V} {d : D}, Dat K G as v d → D.cl as.length d = true
  | _, _, .non => rfl
  | _, _, .bl b => rfl
  | _, _, .int i => rfl
  | _, _, .str x => rfl
  | _, _, .ty n => rfl
  | _, _, .ref a => rfl
  | _, _, .cell h => by simpa [D.cl] using (List.getElem?_eq_some_iff.mp h).1
  | _, _, .tup h hs => by simpa [D.cl] using Dats.cl hs
  | _, _, .lst h hs => by simpa [D.cl] using Dats.cl hs
  | _, _, .lsk h hs => by simpa [D.cl] using Dats.cl hs
  | _, _, .dic h hs => by simpa [D.cl] using DatK.cl hs
  | _, _, .obj h hs => by simpa [D.cl] using DatF.cl hs
theorem Dats.cl {K : PySem.W.Frag} {G : Hp} {as : List Addr} : ∀ {v : List V} {d : List D}, Dats K G as v d → D.clL as.length d = true
  | _, _, .nil => rfl
  | _, _, .cons h t => by rw [D.clL, Dat.cl h, Dats.cl t] <;> rfl
theorem DatK.cl {K : PySem.W.Frag} {G : Hp} {as : List Addr} : ∀ {v : List (Key × V)} {d : List (Key × D)}, DatK K G as v d → D.clK as.length d = true
  | _, _, .nil => rfl
  | _, _, .cons h t => by rw [D.clK, Dat.cl h, DatK.cl t] <;> rfl
theorem DatF.cl {K : PySem.W.Frag} {G : Hp} {as : List Addr} : ∀ {v : List (Str × V)} {d : List (Str × D)}, DatF K G as v d → D.clF as.length d = true
  | _, _, .nil => rfl
  | _, _, .cons h t => by rw [D.clF, Dat.cl h, DatF.cl t] <;> rfl
end
theorem MOk.cl {K : PySem.W.Frag} {G : Hp} {as : List Addr} : ∀ {m : MO} {o : Option HO}, MOk K G as m o → m.cl as.length = true
  | .gone, _, _ => rfl
  | .lst _, _, ⟨vs, e, h⟩ => h.cl
  | .dic _, _, ⟨vs, e, h⟩ => h.cl
  | .dit _, _, ⟨vs, e, k, h⟩ => h.cl
  | .ins _ _, _, ⟨dx, vs, e, h⟩ => h.cl
/-- no cell of the store names one that is not there -/
def Wf (μ : Mu) : Prop := ∀ m ∈ μ, MO.cl μ.length m = true
theorem Rep.wf {K : PySem.W.Frag} {Φ G : Hp} {as : List Addr} {μ : Mu} {H : Hp} (r : Rep K Φ G as μ H) : Wf μ := fun m hm => by
  obtain ⟨i, hi⟩ := List.getElem?_of_mem hm
  have hl : i < as.length := by rw [r.len]; exact (List.getElem?_eq_some_iff.mp hi).1
  by_cases hg : m = .gone
  · subst hg; rfl
  · have := (r.ok i as[i] m (by simp [hl]) hi hg).2.cl
    rw [r.len] at this
    exact this

/-! ### what a def promises -/
inductive Res where
  | val (d : D) | fresh (m : MO)
abbrev QR := Res → Mu → Prop
abbrev DSp := List D → Mu → QR → DX → Prop
def RDat (K : PySem.W.Frag) (Φ G : Hp) (as : List Addr) (H : Hp) (v : V) : Res → Prop
  | .val d => Dat K G as v d
  | .fresh m => ∃ p o, v = .ref p ∧ H p = some o ∧ G p = none ∧ p ∉ as ∧ Φ p = none ∧ MOk K G as m (some o)
def liftSp (K : PySem.W.Frag) (n : Nat) (sp : DSp) : Sp := fun vs H Q E => ∃ (Φ G : Hp) (as : List Addr) (μ : Mu) (ds : List D) (qr : QR) (Ex : DX), Rep K Φ G as μ H ∧ Dats K G as vs ds ∧ ds.length = n ∧ sp ds μ qr Ex ∧
  (∀ (G' : Hp) (as' : List Addr) (μ' : Mu) (H' : Hp) (v : V) (r : Res), Gr G as G' as' → Rep K Φ G' as' μ' H' → RDat K Φ G' as' H' v r → qr r μ' → Q v H') ∧
  ∀ (G' : Hp) (as' : List Addr) (μ' : Mu) (H' : Hp) (x : Exn) (cls : Value) (dx : Option Addr), Gr G as G' as' → Rep K Φ G' as' μ' H' → ExnR K G' as' H' x cls dx → Ex x μ' → E cls dx H'
/-- the end of a def: what is handed back; the cells that were made within it are dropped, but for those told -/
inductive FinR (μ : Mu) (qr : QR) : D → Mu → Prop
  | same {d : D} {μ' : Mu} (hl : μ'.length = μ.length) (q : qr (.val d) μ') : FinR μ qr d μ'
  | more {d : D} {μ' : Mu} (n : Nat) (hn : μ.length ≤ n) (hd : D.cl n d = true) (hm : ∀ m ∈ μ'.take n, MO.cl n m = true) (q : qr (.val d) (μ'.take n)) : FinR μ qr d μ'
  | new {j : Nat} {m : MO} {μ' : Mu} (n : Nat) (hn : μ.length ≤ n) (hj : n ≤ j) (he : μ'[j]? = some m) (hg : m ≠ .gone) (hc : m.cl n = true) (hm : ∀ m ∈ μ'.take n, MO.cl n m = true) (q : qr (.fresh m) (μ'.take n)) : FinR μ qr (.cell j) μ'
inductive FinX (μ : Mu) (Ex : DX) (x : Exn) : Mu → Prop
  | same {μ' : Mu} (hl : μ'.length = μ.length) (q : Ex x μ') : FinX μ Ex x μ'
  | more {μ' : Mu} (n : Nat) (hn : μ.length ≤ n) (hf : x.flds = none) (hm : ∀ m ∈ μ'.take n, MO.cl n m = true) (q : Ex x (μ'.take n)) : FinX μ Ex x μ'
theorem pre_take {as as' : List Addr} (h : as <+: as') {n : Nat} (hn : as.length ≤ n) : as <+: as'.take n := by
  obtain ⟨r, rfl⟩ := h
  rw [List.take_append, List.take_of_length_le hn]
  exact List.prefix_append _ _
theorem fin_lift {K : PySem.W.Frag} {Φ G G' : Hp} {as as' : List Addr} {μ μ' : Mu} {H' : Hp} {qr : QR} {v : V} {d : D} {Q : VK} (hl : as.length = μ.length) (g : Gr G as G' as') (r : Rep K Φ G' as' μ' H') (hd : Dat K G' as' v d) (f : FinR μ qr d μ')
    (k : ∀ (G' : Hp) (as' : List Addr) (μ' : Mu) (H' : Hp) (v : V) (r : Res), Gr G as G' as' → Rep K Φ G' as' μ' H' → RDat K Φ G' as' H' v r → qr r μ' → Q v H') : Q v H' := by
  cases f with
  | same hl q => exact k G' as' μ' H' v (.val d) g r hd q
  | more n hn hc hm q => exact k G' (as'.take n) (μ'.take n) H' v (.val d) ⟨g.same, pre_take g.pre (by omega)⟩ (r.drop hm) (hd.down hc) q
  | @new j m μ'' n hn hj he hg hc hm q =>
    cases hd with
    | @cell a _ ha =>
      obtain ⟨z1, z2⟩ := r.ok j a m ha he hg
      cases e : H' a with
      | none => exact absurd e (r.there a (List.mem_of_getElem? ha))
      | some o =>
        refine k G' (as'.take n) (μ'.take n) H' (.ref a) (.fresh m) ⟨g.same, pre_take g.pre (by omega)⟩ (r.drop hm) ⟨a, o, rfl, e, z1, fun hmem => ?_, r.frA a (List.mem_of_getElem? ha), ?_⟩ q
        · obtain ⟨i, hi⟩ := List.getElem?_of_mem hmem
          rw [List.getElem?_take] at hi
          split at hi
          · have := nd_at r.nd hi ha
            omega
          · cases hi
        · rw [e] at z2
          exact z2.down hc
theorem finX_lift {K : PySem.W.Frag} {Φ G G' : Hp} {as as' : List Addr} {μ μ' : Mu} {H' : Hp} {Ex : DX} {x : Exn} {cls : Value} {dx : Option Addr} {P : Prop} (hl : as.length = μ.length) (g : Gr G as G' as') (r : Rep K Φ G' as' μ' H') (er : ExnR K G' as' H' x cls dx) (f : FinX μ Ex x μ')
    (k : ∀ (G' : Hp) (as' : List Addr) (μ' : Mu), Gr G as G' as' → Rep K Φ G' as' μ' H' → ExnR K G' as' H' x cls dx → Ex x μ' → P) : P := by
  cases f with
  | same hl q => exact k G' as' μ' g r er q
  | more n hn hf hm q =>
    refine k G' (as'.take n) (μ'.take n) ⟨g.same, pre_take g.pre (by omega)⟩ (r.drop hm) ?_ q
    unfold ExnR at er ⊢
    rw [hf] at er ⊢
    exact er
/-- nothing but new cells -/
theorem FinR.val {μ ex : Mu} {qr : QR} {d : D} (wf : Wf μ) (hd : D.cl μ.length d = true) (q : qr (.val d) μ) : FinR μ qr d (μ ++ ex) := by
  have e : (μ ++ ex).take μ.length = μ := by simp
  exact .more μ.length (Nat.le_refl _) hd (by rw [e]; exact wf) (by rw [e]; exact q)
theorem FinR.mk {μ ex : Mu} {qr : QR} {j : Nat} {m : MO} (wf : Wf μ) (hj : μ.length ≤ j) (he : (μ ++ ex)[j]? = some m) (hg : m ≠ .gone) (hc : m.cl μ.length = true) (q : qr (.fresh m) μ) : FinR μ qr (.cell j) (μ ++ ex) := by
  have e : (μ ++ ex).take μ.length = μ := by simp
  exact .new μ.length (Nat.le_refl _) hj he hg hc (by rw [e]; exact wf) (by rw [e]; exact q)
theorem FinX.val {μ ex : Mu} {Ex : DX} {x : Exn} (wf : Wf μ) (hf : x.flds = none) (q : Ex x μ) : FinX μ Ex x (μ ++ ex) := by
  have e : (μ ++ ex).take μ.length = μ := by simp
  exact .more μ.length (Nat.le_refl _) hf (by rw [e]; exact wf) (by rw [e]; exact q)
/-- a fresh thing becomes a cell, or is settled -/
theorem fresh_cell {K : PySem.W.Frag} {Φ G : Hp} {as : List Addr} {μ : Mu} {H : Hp} {v : V} {m : MO} (r : Rep K Φ G as μ H) (f : RDat K Φ G as H v (.fresh m)) : ∃ p, v = .ref p ∧ Gr G as G (as ++ [p]) ∧ Rep K Φ G (as ++ [p]) (μ ++ [m]) H ∧ Dat K G (as ++ [p]) v (.cell μ.length) := by
  obtain ⟨p, o, rfl, hp, gp, ap, fp, hm⟩ := f
  have g : Gr G as G (as ++ [p]) := ⟨Same.refl G, List.prefix_append _ _⟩
  have hat : (as ++ [p])[μ.length]? = some p := by rw [← r.len]; simp
  refine ⟨p, rfl, g, ⟨r.same, by simp [r.len], ?_, fun a m => ?_, r.fr, r.frG, fun a m => ?_, fun i a m' h1 h2 h3 => ?_⟩, .cell hat⟩
  · rw [List.nodup_append]
    refine ⟨r.nd, by simp, fun a ha b hb => ?_⟩
    have e : b = p := by simpa using hb
    subst e
    exact fun z => ap (z ▸ ha)
  · rcases List.mem_append.mp m with m | m
    · exact r.there a m
    · have e : a = p := by simpa using m
      subst e; rw [hp]; simp
  · rcases List.mem_append.mp m with m | m
    · exact r.frA a m
    · have e : a = p := by simpa using m
      subst e; exact fp
  · by_cases hi : i < as.length
    · rw [List.getElem?_append_left hi] at h1
      rw [List.getElem?_append_left (by rw [← r.len]; exact hi)] at h2
      obtain ⟨z1, z2⟩ := r.ok i a m' h1 h2 h3
      exact ⟨z1, z2.mono g⟩
    · have hi' : i = as.length := by
        have := (List.getElem?_eq_some_iff.mp h1).1
        simp at this; omega
      subst hi'
      have e1 : p = a := by simpa using h1
      have e2 : m = m' := by
        have := h2
        rw [r.len] at this
        simpa using this
      subst e1 e2
      rw [hp]
      exact ⟨gp, hm.mono g⟩
theorem fresh_frz {K : PySem.W.Frag} {Φ G : Hp} {as : List Addr} {μ : Mu} {H : Hp} {v : V} {m : MO} (r : Rep K Φ G as μ H) (f : RDat K Φ G as H v (.fresh m)) : ∃ p G', v = .ref p ∧ Gr G as G' as ∧ Rep K Φ G' as μ H ∧ Dat K G' as v (m.fz p) := by
  obtain ⟨p, o, rfl, hp, gp, ap, fp, hm⟩ := f
  have g : Gr G as (upd G p o) as := ⟨same_upd gp, List.prefix_refl _⟩
  refine ⟨p, upd G p o, rfl, g, ⟨fun b u e => ?_, r.len, r.nd, r.there, r.fr, fun a u e => ?_, r.frA, fun i a m h1 h2 h3 => ?_⟩, (hm.mono g).dat upd_same⟩
  · by_cases hb : b = p
    · subst hb; rw [upd_same] at e; rw [← e]; exact hp
    · rw [upd_ne hb] at e; exact r.same b u e
  · have ne : a ≠ p := fun z => by subst z; rw [fp] at e; cases e
    rw [upd_ne ne]; exact r.frG a u e
  · have ne : a ≠ p := fun z => ap (z ▸ List.mem_of_getElem? h1)
    obtain ⟨z1, z2⟩ := r.ok i a m h1 h2 h3
    rw [upd_ne ne]
    exact ⟨z1, z2.mono g⟩

/-! ### a def by its body -/
/-- a def of the module's top -/
def TopFn (K : PySem.W.Frag) (mg : Str → Option Value) (x : Str) (st : Stmt) (ps : List Str) : Prop := ∃ (f : Addr) (fd : FuncData), Fun K x x st f fd ∧ mg x = some (.ref f) ∧ Binds K fd ps []
/-- a method of the class at C -/
def TopMt (K : PySem.W.Frag) (C : Addr) (m qual : Str) (st : Stmt) (ps : List Str) : Prop := ∃ (f : Addr) (fd : FuncData), Fun K m qual st f fd ∧ Meth K C m f ∧ Binds K fd ps []
structure DFn (P : Program) (w : World) (K : PySem.W.Frag) (mg : Str → Option Value) (base : Heap) (x : Str) (k n : Nat) (sp : DSp) : Prop where
  ex : ∃ (f : Addr) (fd : FuncData) (ps : List Str), FnOk P w K mg base (L2.CX P w) k f fd ps (liftSp K n sp) ∧ mg x = some (.ref f) ∧ PySem.W.keepIn K (.ref f) = true ∧ Binds K fd ps []
structure DMt (P : Program) (w : World) (K : PySem.W.Frag) (mg : Str → Option Value) (base : Heap) (C : Addr) (m : Str) (k n : Nat) (sp : DSp) : Prop where
  ex : ∃ (f : Addr) (fd : FuncData) (ps : List Str), FnOk P w K mg base (L2.CX P w) k f fd ps (liftSp K n sp) ∧ Meth K C m f ∧ Binds K fd ps []
def startD (n : Nat) (ds : List D) : Rho := ds.map some ++ List.replicate (n - ds.length) none
theorem start_srel {K : PySem.W.Frag} {G : Hp} {as : List Addr} {N : List Str} {vs : List V} {ds : List D} (h : Dats K G as vs ds) : SRel K G as (L2.start N vs) (startD N.length ds) := by
  refine ⟨by simp [L2.start, startD, h.length], fun i d e => ?_⟩
  unfold startD at e
  by_cases hi : i < ds.length
  · rw [List.getElem?_append_left (by simpa using hi), List.getElem?_map] at e
    cases e2 : ds[i]? with
    | none => rw [e2] at e; cases e
    | some d2 =>
      rw [e2] at e
      cases e
      obtain ⟨v, hv, hd⟩ := h.get e2
      refine ⟨v, ?_, hd⟩
      unfold L2.start
      rw [List.getElem?_append_left (by rw [List.length_map]; exact (List.getElem?_eq_some_iff.mp hv).1), List.getElem?_map, hv]
      rfl
  · rw [List.getElem?_append_right (by simpa using hi), List.getElem?_replicate] at e
    split at e <;> cases e
section
variable {P : Program} {w : World} {K : PySem.W.Frag} {mg : Str → Option Value} {base : Heap}
/-- the context of a def's body -/
abbrev BX (P : Program) (w : World) (K : PySem.W.Frag) (mg : Str → Option Value) (base : Heap) (N : List Str) (qual : Str) (st : Stmt) (f : Addr) (cdv : Value) (A : Around) (outer : List Env) (s : Shared) (H : Hp) (E : XK) : Cx := cxOf (L2.CX P w) P w K mg base N qual (defScope st) f cdv A outer s H E
abbrev WB (E : XK) : WX := fun cls d _ H => E cls d H
def DEnds.of (μ : Mu) (qr : QR) (Ex : DX) : DEnds := { lo := μ.length, nx := fun _ μ' => FinR μ qr .non μ', rt := FinR μ qr, ex := fun cls _ μ' => FinX μ Ex cls μ' }
theorem fn_ok {x qual : Str} {st : Stmt} {f : Addr} {fd : FuncData} {N ps : List Str} {k : Nat} {sp : DSp} (F : Fun K x qual st f fd) (S : FnScope N ps (defScope st))
    (hbody : ∀ (cdv : Value) (A : Around) (outer : List Env) (s : Shared) (H : Hp) (E : XK), Room k (BX P w K mg base N qual st f cdv A outer s H E).A →
      ∃ dt, DSs (BX P w K mg base N qual st f cdv A outer s H E) (WB E) (defBody st) dt ∧ ∀ (ds : List D) (μ : Mu) (qr : QR) (Ex : DX), Wf μ → sp ds μ qr Ex → dt (DEnds.of μ qr Ex) (startD N.length ds) μ) :
    FnOk P w K mg base (L2.CX P w) (k + 1) f fd ps (liftSp K ps.length sp) := by
  refine F.okX S (fun vs H Q E h => ?_) (fun cdv A outer s H vs Q E hr h => ?_)
  · obtain ⟨_, _, _, _, ds, _, _, _, hd, hl, _⟩ := h
    rw [hd.length, hl]
  · obtain ⟨dt, hdt, hsp⟩ := hbody cdv A outer s H E hr
    refine ⟨_, hdt, ?_⟩
    obtain ⟨Φ, G, as, μ, ds, qr, Ex, rp, hd, hl, q, k1, k2⟩ := h
    exact ⟨Φ, startD N.length ds, G, as, G, as, μ, DEnds.of μ qr Ex, Gr.refl _ _, start_srel hd, rp, hsp ds μ qr Ex rp.wf q,
      ⟨rp.len, fun G' as' μ' H' σ' ρ' g r sr f => fin_lift rp.len g r .non f k1, fun G' as' μ' H' v d g r hd f => fin_lift rp.len g r hd f k1, fun G' as' μ' H' σ' ρ' x cls dx g r sr er f => finX_lift rp.len g r er f fun G2 as2 μ2 g2 r2 er2 q2 => k2 G2 as2 μ2 H' x cls dx g2 r2 er2 q2,
        fun _ _ _ _ _ _ _ _ _ z => z.elim, fun _ _ _ _ _ _ _ _ _ z => z.elim⟩⟩
theorem dfn {x : Str} {st : Stmt} {N ps : List Str} {k : Nat} {sp : DSp} (T : TopFn K mg x st ps) (S : FnScope N ps (defScope st))
    (hbody : ∀ (f : Addr) (cdv : Value) (A : Around) (outer : List Env) (s : Shared) (H : Hp) (E : XK), Room k (BX P w K mg base N x st f cdv A outer s H E).A →
      ∃ dt, DSs (BX P w K mg base N x st f cdv A outer s H E) (WB E) (defBody st) dt ∧ ∀ (ds : List D) (μ : Mu) (qr : QR) (Ex : DX), Wf μ → sp ds μ qr Ex → dt (DEnds.of μ qr Ex) (startD N.length ds) μ) :
    DFn P w K mg base x (k + 1) ps.length sp := by
  obtain ⟨f, fd, F, hm, hb⟩ := T
  exact ⟨f, fd, ps, fn_ok F S (hbody f), hm, F.kp, hb⟩
theorem dmt {C : Addr} {m qual : Str} {st : Stmt} {N ps : List Str} {k : Nat} {sp : DSp} (T : TopMt K C m qual st ps) (S : FnScope N ps (defScope st))
    (hbody : ∀ (f : Addr) (cdv : Value) (A : Around) (outer : List Env) (s : Shared) (H : Hp) (E : XK), Room k (BX P w K mg base N qual st f cdv A outer s H E).A →
      ∃ dt, DSs (BX P w K mg base N qual st f cdv A outer s H E) (WB E) (defBody st) dt ∧ ∀ (ds : List D) (μ : Mu) (qr : QR) (Ex : DX), Wf μ → sp ds μ qr Ex → dt (DEnds.of μ qr Ex) (startD N.length ds) μ) :
    DMt P w K mg base C m (k + 1) ps.length sp := by
  obtain ⟨f, fd, F, hm, hb⟩ := T
  exact ⟨f, fd, ps, fn_ok F S (hbody f), hm, hb⟩
end

/-! ### calls -/
def resF (Q : DQ) : QR
  | .val d, μ => Q d μ
  | .fresh (.lst ds), μ => Q (.lst ds) μ
  | .fresh (.dic ds), μ => Q (.dic ds) μ
  | .fresh (.ins C fs), μ => ∀ p, Q (.obj p C fs) μ
  | .fresh _, _ => False
def resC (Q : DQ) : QR
  | .val d, μ => Q d μ
  | .fresh m, μ => Q (.cell μ.length) (μ ++ [m])
def dCall (sp : DSp) (ta : DTA) : DTE := fun ρ μ Q Ex => ta ρ μ (fun ds μ1 => sp ds μ1 (resF Q) Ex) Ex
def dCallC (sp : DSp) (ta : DTA) : DTE := fun ρ μ Q Ex => ta ρ μ (fun ds μ1 => sp ds μ1 (resC Q) Ex) Ex
/-- either way of taking what a call hands back -/
def Takes2 (qf : DQ → QR) : Prop := ∀ (K : PySem.W.Frag) (Φ G : Hp) (as : List Addr) (μ : Mu) (H : Hp) (v : V) (r : Res) (Q : DQ), Rep K Φ G as μ H → RDat K Φ G as H v r → qf Q r μ → ∃ G' as' μ' d, Gr G as G' as' ∧ Rep K Φ G' as' μ' H ∧ Dat K G' as' v d ∧ Q d μ'
theorem takesF : Takes2 resF := fun K Φ G as μ H v r Q rp rd q => by
  cases r with
  | val d => exact ⟨G, as, μ, d, Gr.refl _ _, rp, rd, q⟩
  | fresh m =>
    obtain ⟨p, G', e, g, rp', d'⟩ := fresh_frz rp rd
    refine ⟨G', as, μ, _, g, rp', d', ?_⟩
    cases m with
    | lst ds => exact q
    | dic ds => exact q
    | ins C fs => exact q p
    | gone => exact q.elim
    | dit ds => exact q.elim
theorem takesC : Takes2 resC := fun K Φ G as μ H v r Q rp rd q => by
  cases r with
  | val d => exact ⟨G, as, μ, d, Gr.refl _ _, rp, rd, q⟩
  | fresh m =>
    obtain ⟨p, e, g, rp', d'⟩ := fresh_cell rp rd
    exact ⟨G, _, _, _, g, rp', d', q⟩
section
variable {X : Cx} {W : WX} {pos p apos : Pos} {x m : Str} {e o : Expr} {es : List Expr} {ta : DTA} {da : DTE} {k n : Nat} {sp : DSp} {qf : DQ → QR} {C : Addr}
/-- the promise is asked for at the call -/
theorem call_up {K : PySem.W.Frag} {σ : L2.St} {Φ G : Hp} {as : List Addr} {μ : Mu} {H : Hp} {vs : List V} {ds : List D} {Q : DQ} {Ex : DX} {R : VK} (t2 : Takes2 qf) (hn : ds.length = n) (rp : Rep K Φ G as μ H) (hd : Dats K G as vs ds) (q : sp ds μ (qf Q) Ex) (lx : LX K W Φ G as σ Ex)
    (k : ∀ (G' : Hp) (as' : List Addr) (μ' : Mu) (H' : Hp) (v : V) (d : D), Gr G as G' as' → Rep K Φ G' as' μ' H' → Dat K G' as' v d → Q d μ' → R v H') : liftSp K n sp vs H R (WE W σ) :=
  ⟨Φ, G, as, μ, ds, qf Q, Ex, rp, hd, hn, q, fun G' as' μ' H' v r g r' rd q' => by
    obtain ⟨G2, as2, μ2, d, g2, r2, d2, q2⟩ := t2 K Φ G' as' μ' H' v r Q r' rd q'
    exact k G2 as2 μ2 H' v d (g.trans g2) r2 d2 q2, fun G' as' μ' H' x cls dx g r' er z => lx G' as' μ' H' x cls dx g r' er z⟩
def dCallG (n : Nat) (qf : DQ → QR) (sp : DSp) (ta : DTA) : DTE := fun ρ μ Q Ex => ta ρ μ (fun ds μ1 => ds.length = n ∧ sp ds μ1 (qf Q) Ex) Ex
theorem de_callG (t2 : Takes2 qf) (F : DFn X.prog X.w X.K X.mg X.base x k n sp) (hr : Room k X.A) (tk : Takes X W) (ha : DA X W (e :: es) ta) (hg : Gl X x := by rfl) (hdb : (x == ("__debug__" : Str)) = false := by decide)
    (he : starEach (e :: es) X.env = (false, eval e X.env) :: starEach es X.env := by rfl) (hpl : (backTo pos (starEach es X.env)).any (·.1) = false := by rfl) : DE X W (.Call (.Name x p) (e :: es) [] pos) (dCallG n qf sp ta) := by
  obtain ⟨f, fd, ps, F, hm, hk, hb⟩ := F.ex
  refine peI (pe_callS F hr hg hm hk hb (fun σ => passAt tk σ) ha hdb he hpl) fun σ H R ⟨Φ, ρ, G, as, μ, Q, Ex, sr, rp, q, lx, k⟩ => ?_
  exact ⟨Φ, ρ, G, as, μ, _, Ex, sr, rp, q, lx, fun G1 as1 μ1 H1 vs ds g1 rp1 d1 ⟨hn, q1⟩ => call_up t2 hn rp1 d1 q1 (lx.mono g1) fun G' as' μ' H' v d g' => k G' as' μ' H' v d (g1.trans g')⟩
theorem pe_call0S {CX : CXT} {f : Addr} {fd : FuncData} {ps : List Str} {sp : Sp} {E : L2.St → XK} (F : FnOk X.prog X.w X.K X.mg X.base CX k f fd ps sp) (hr : Room k X.A) (hg : Gl X x) (hm : X.mg x = some (.ref f)) (hk : PySem.W.keepIn X.K (.ref f) = true) (hb : Binds X.K fd ps []) (hx : ∀ σ, PassesAt CX X σ (E σ))
    (hdb : (x == ("__debug__" : Str)) = false := by decide) : PE X (.Call (.Name x p) [] [] pos) (fun σ H Q => sp [] H Q (E σ)) :=
  ⟨fun pins s σ H Q I h => wpAny_Call_Name_kw (ld_glob I hg hm (PySem.W.callWith_K0 I.kIn hk (run_fnS F hr hb (hx σ) I .nil h)) hdb)⟩
theorem de_call0G (t2 : Takes2 qf) (F : DFn X.prog X.w X.K X.mg X.base x k n sp) (hr : Room k X.A) (tk : Takes X W) (hg : Gl X x := by rfl) (hdb : (x == ("__debug__" : Str)) = false := by decide) : DE X W (.Call (.Name x p) [] [] pos) (dCallG n qf sp dNil) := by
  obtain ⟨f, fd, ps, F, hm, hk, hb⟩ := F.ex
  refine peI (pe_call0S F hr hg hm hk hb (fun σ => passAt tk σ) hdb) fun σ H R ⟨Φ, ρ, G, as, μ, Q, Ex, sr, rp, ⟨hn, q⟩, lx, k⟩ => ?_
  exact call_up t2 hn rp .nil q lx k

/-- what an instance is: its class, its fields -/
def insV (μ : Mu) : D → Option (Addr × List (Str × D))
  | .obj _ C fs => some (C, fs)
  | .cell i => match μ[i]? with
    | some (.ins C fs) => some (C, fs)
    | _ => none
  | _ => none
theorem DatF.look {K : PySem.W.Frag} {G : Hp} {as : List Addr} {f : Str} : ∀ {vs : List (Str × V)} {ds : List (Str × D)}, DatF K G as vs ds → (∀ d, ds.lookup f = some d → ∃ v, vs.lookup f = some v ∧ Dat K G as v d) ∧ (ds.lookup f = none → vs.lookup f = none)
  | _, _, .nil => ⟨(fun d e => by cases e), fun _ => rfl⟩
  | _, _, .cons (k := k) h t => by
    obtain ⟨i1, i2⟩ := DatF.look (f := f) t
    by_cases hk : (f == k) = true
    · refine ⟨fun d e => ?_, fun e => ?_⟩
      · rw [List.lookup_cons, hk] at e
        cases e
        exact ⟨_, by rw [List.lookup_cons, hk], h⟩
      · rw [List.lookup_cons, hk] at e
        cases e
    · have hk' : (f == k) = false := by simpa using hk
      refine ⟨fun d e => ?_, fun e => ?_⟩
      · rw [List.lookup_cons, hk'] at e ⊢
        exact i1 d e
      · rw [List.lookup_cons, hk'] at e ⊢
        exact i2 e
theorem ins_at {K : PySem.W.Frag} {Φ G : Hp} {as : List Addr} {μ : Mu} {H : Hp} {v : V} {d : D} {C : Addr} {fs : List (Str × D)} (rp : Rep K Φ G as μ H) (hd : Dat K G as v d) (h : insV μ d = some (C, fs)) : ∃ a dx vs, v = .ref a ∧ H a = some (.ins C dx vs) ∧ DatF K G as vs fs := by
  cases d with
  | obj a C' fs' =>
    cases h
    cases hd with
    | obj hG hf => exact ⟨a, _, _, rfl, rp.same _ _ hG, hf⟩
  | cell i =>
    cases hd with
    | @cell a _ ha =>
      cases e : μ[i]? with
      | none => simp [insV, e] at h
      | some m =>
        simp only [insV, e] at h
        cases m with
        | ins C' fs' =>
          cases h
          obtain ⟨_, dx, vs, h1, h2⟩ := rp.ok i a _ ha e (by simp)
          exact ⟨a, dx, vs, rfl, h1, h2⟩
        | gone => cases h
        | lst _ => cases h
        | dic _ => cases h
        | dit _ => cases h
  | non => cases h
  | bl _ => cases h
  | int _ => cases h
  | str _ => cases h
  | ty _ => cases h
  | ref _ => cases h
  | tup _ => cases h
  | lst _ => cases h
  | lsk _ => cases h
  | dic _ => cases h
def dFld (C : Addr) (f : Str) (te : DTE) : DTE := fun ρ μ Q Ex => te ρ μ (fun o μ1 => ∃ fs d, insV μ1 o = some (C, fs) ∧ fs.lookup f = some d ∧ Q d μ1) Ex
theorem de_fld {f : Str} (c : Cls X.K C) (nf : NoAttr X.K C f) (he : DE X W e da) (hb : attributeBase e f X.env (eval e X.env) = eval e X.env := by rfl) : DE X W (.Attribute e f pos) (dFld C f da) := peI (pe_fld he hb) fun σ H R ⟨Φ, ρ, G, as, μ, Q, Ex, sr, rp, q, lx, k⟩ =>
  ⟨Φ, ρ, G, as, μ, _, Ex, sr, rp, q, lx, fun G1 as1 μ1 H1 v d g1 rp1 d1 ⟨fs, d2, hi, hl, q1⟩ => by
    obtain ⟨a, dx, vs, rfl, ha, hf⟩ := ins_at rp1 d1 hi
    obtain ⟨v2, hv2, hd2⟩ := hf.look.1 d2 hl
    exact ⟨a, C, dx, vs, v2, rfl, ha, c, nf, hv2, k G1 as1 μ1 H1 v2 d2 g1 rp1 hd2 q1⟩⟩
def putD (f : Str) (d : D) : List (Str × D) → List (Str × D)
  | [] => [(f, d)]
  | (k, x) :: r => if k = f then (k, d) :: r else (k, x) :: putD f d r
theorem DatF.put {K : PySem.W.Frag} {G : Hp} {as : List Addr} {f : Str} {v : V} {d : D} (hd : Dat K G as v d) : ∀ {vs : List (Str × V)} {ds : List (Str × D)}, DatF K G as vs ds → DatF K G as (putF f v vs) (putD f d ds)
  | _, _, .nil => .cons hd .nil
  | _, _, .cons (k := k) h t => by
    show DatF K G as (if k = f then _ else _) (if k = f then _ else _)
    by_cases e : k = f
    · rw [if_pos e, if_pos e]
      exact .cons hd t
    · rw [if_neg e, if_neg e]
      exact .cons h (DatF.put hd t)
theorem DatF.length {K : PySem.W.Frag} {G : Hp} {as : List Addr} : ∀ {vs : List (Str × V)} {ds : List (Str × D)}, DatF K G as vs ds → vs.length = ds.length
  | _, _, .nil => rfl
  | _, _, .cons _ t => congrArg (· + 1) (DatF.length t)
/-- o.f = e, o an instance that is a cell -/
def dFldS (C : Addr) (f : Str) (to te : DTE) : DTS := fun E ρ μ => te ρ μ (fun d μ1 => to ρ μ1 (fun o μ2 => ∃ i fs, o = .cell i ∧ μ2[i]? = some (.ins C fs) ∧ fs.length < 1000 ∧ E.nx ρ (μ2.set i (.ins C (putD f d fs)))) (fun cls μ' => E.ex cls ρ μ')) (fun cls μ' => E.ex cls ρ μ')
theorem ds_fld {f : Str} {value : Expr} {dv : DTE} {pos' : Pos} (c : Cls X.K C) (nf : NoAttr X.K C f) (ho : DE X W o da) (hv : DE X W value dv) (hs : swapsWith value (some (.Attribute o f pos')) pos.line X.env = pure false := by rfl) : DS X W (.Assign [.Attribute o f pos'] value pos) (dFldS C f da dv) :=
  psI (ps_fld ho hv hs) fun E σ H ⟨Φ, ρ, G0, as0, G, as, μ, DE, g0, sr, rp, q, le⟩ =>
  ⟨Φ, ρ, G, as, μ, _, _, sr, rp, q, le.lxg g0 sr, fun G1 as1 μ1 H1 v d g1 rp1 d1 q1 => ⟨Φ, ρ, G1, as1, μ1, _, _, sr.mono g1, rp1, q1, le.lxg (g0.trans g1) (sr.mono g1), fun G2 as2 μ2 H2 v2 o2 g2 rp2 d2 ⟨i, fs, e2, hi, hl, q2⟩ => by
    subst e2
    cases d2 with
    | @cell a _ ha =>
      obtain ⟨_, dx, vs, h1, h2⟩ := rp2.ok i a _ ha hi (by simp)
      refine ⟨a, C, dx, vs, rfl, h1, c, nf, by rw [h2.length]; exact hl, ?_⟩
      exact le.nx G2 as2 _ _ σ ρ ((g0.trans g1).trans g2) (rp2.write (o := .ins C dx (putF f v vs)) (m' := .ins C (putD f d fs)) ha hi (by simp) ⟨dx, _, rfl, DatF.put (d1.mono g2) h2⟩) ((sr.mono g1).mono g2) q2⟩⟩

/-! methods -/
theorem pe_methS {CX : CXT} {f : Addr} {fd : FuncData} {ps : List Str} {sp : Sp} {E : L2.St → XK} {pl : Sem Bool} {te : TE} {t : TA} (he : PE X o te) (c : Cls X.K C) (hm : Meth X.K C m f) (F : FnOk X.prog X.w X.K X.mg X.base CX k f fd ps sp) (hr : Room k X.A) (hb : Binds X.K fd ps [])
    (hx : ∀ σ, PassesAt CX X σ (E σ)) (ha : PA X (e :: es) t)
    (hst : starEach (e :: es) X.env = (false, eval e X.env) :: starEach es X.env := by rfl) (hpl : (backTo pos (starEach es X.env)).any (·.1) = false := by rfl)
    (ht : eval (.Call (.Attribute o m apos) (e :: es) [] pos) X.env = (do
      let ov ← eval o X.env
      standAt apos.atName
      let (f, first) ← holding [ov] (getMethod ov m pl)
      callWith pos f first (backTo pos (starEach (e :: es) X.env)) (backToKw pos (keywordEach [] X.env))) := by rfl) :
    PE X (.Call (.Attribute o m apos) (e :: es) [] pos) (fun σ H Q => te σ H fun x H1 => ∃ a dx fs, x = .ref a ∧ H1 a = some (.ins C dx fs) ∧ fs.lookup m = none ∧ t σ H1 fun vs H2 => sp (x :: vs) H2 Q (E σ)) := by
  constructor
  intro pins s σ H Q I h
  apply PySem.W.methodCall_KW (pl := pl) _ ht
  refine thn (he.run pins s σ H _ I h) ?_
  rintro u s1 ⟨x, H1, I1, rx, a, dx, fs, rfl, ea, l, q⟩
  obtain rfl : u = Value.ref a := rx
  apply getmeth_ok I1 ea c hm l
  have hgo := thn (ha.run pos pins s1 σ H1 _ I1 q) fun us s2 ⟨vs, H2, I2, r, q2⟩ => (⟨I2.kIn, run_fnS (us := .ref a :: us) (vs := .ref a :: vs) F hr hb (hx σ) I2 (.cons rfl r) q2⟩ : X.K.In s2.heap ∧ _)
  exact PySem.W.callWith_K (first := [.ref a]) (h₀ := X.base) I.ok.mod.kin hm.kp hgo hst hpl
theorem pe_meth0S {CX : CXT} {f : Addr} {fd : FuncData} {ps : List Str} {sp : Sp} {E : L2.St → XK} {pl : Sem Bool} {te : TE} (he : PE X o te) (c : Cls X.K C) (hm : Meth X.K C m f) (F : FnOk X.prog X.w X.K X.mg X.base CX k f fd ps sp) (hr : Room k X.A) (hb : Binds X.K fd ps [])
    (hx : ∀ σ, PassesAt CX X σ (E σ))
    (ht : eval (.Call (.Attribute o m apos) [] [] pos) X.env = (do
      let ov ← eval o X.env
      standAt apos.atName
      let (f, first) ← holding [ov] (getMethod ov m pl)
      callWith pos f first (backTo pos (starEach [] X.env)) (backToKw pos (keywordEach [] X.env))) := by rfl) :
    PE X (.Call (.Attribute o m apos) [] [] pos) (fun σ H Q => te σ H fun x H1 => ∃ a dx fs, x = .ref a ∧ H1 a = some (.ins C dx fs) ∧ fs.lookup m = none ∧ sp [x] H1 Q (E σ)) := by
  constructor
  intro pins s σ H Q I h
  apply PySem.W.methodCall_KW (pl := pl) _ ht
  refine thn (he.run pins s σ H _ I h) ?_
  rintro u s1 ⟨x, H1, I1, rx, a, dx, fs, rfl, ea, l, q⟩
  obtain rfl : u = Value.ref a := rx
  apply getmeth_ok I1 ea c hm l
  exact PySem.W.callWith_K0 (first := [.ref a]) I1.kIn hm.kp (run_fnS (us := [.ref a]) (vs := [.ref a]) F hr hb (hx σ) I1 (.cons rfl .nil) q)
def dMethG (C : Addr) (m : Str) (n : Nat) (qf : DQ → QR) (sp : DSp) (to : DTE) (ta : DTA) : DTE := fun ρ μ Q Ex => to ρ μ (fun o μ1 => (∃ fs, insV μ1 o = some (C, fs) ∧ fs.lookup m = none) ∧ ta ρ μ1 (fun ds μ2 => (o :: ds).length = n ∧ sp (o :: ds) μ2 (qf Q) Ex) Ex) Ex
theorem de_methG (t2 : Takes2 qf) {pl : Sem Bool} (c : Cls X.K C) (F : DMt X.prog X.w X.K X.mg X.base C m k n sp) (hr : Room k X.A) (tk : Takes X W) (ho : DE X W o da) (ha : DA X W (e :: es) ta)
    (hst : starEach (e :: es) X.env = (false, eval e X.env) :: starEach es X.env := by rfl) (hpl : (backTo pos (starEach es X.env)).any (·.1) = false := by rfl)
    (ht : eval (.Call (.Attribute o m apos) (e :: es) [] pos) X.env = (do
      let ov ← eval o X.env
      standAt apos.atName
      let (f, first) ← holding [ov] (getMethod ov m pl)
      callWith pos f first (backTo pos (starEach (e :: es) X.env)) (backToKw pos (keywordEach [] X.env))) := by rfl) : DE X W (.Call (.Attribute o m apos) (e :: es) [] pos) (dMethG C m n qf sp da ta) := by
  obtain ⟨f, fd, ps, F, hm, hb⟩ := F.ex
  refine peI (pe_methS ho c hm F hr hb (fun σ => passAt tk σ) ha hst hpl ht) fun σ H R ⟨Φ, ρ, G, as, μ, Q, Ex, sr, rp, q, lx, k⟩ => ?_
  refine ⟨Φ, ρ, G, as, μ, _, Ex, sr, rp, q, lx, fun G1 as1 μ1 H1 v d g1 rp1 d1 ⟨⟨fs, hi, hl⟩, q1⟩ => ?_⟩
  obtain ⟨a, dx, vs, rfl, ha, hf⟩ := ins_at rp1 d1 hi
  exact ⟨a, dx, vs, rfl, ha, hf.look.2 hl, Φ, ρ, G1, as1, μ1, _, Ex, sr.mono g1, rp1, q1, lx.mono g1, fun G2 as2 μ2 H2 vs2 ds2 g2 rp2 d2 ⟨hn, q2⟩ => call_up t2 hn rp2 (.cons (d1.mono g2) d2) q2 (lx.mono (g1.trans g2)) fun G' as' μ' H' v d g' => k G' as' μ' H' v d ((g1.trans g2).trans g')⟩
theorem de_meth0G (t2 : Takes2 qf) {pl : Sem Bool} (c : Cls X.K C) (F : DMt X.prog X.w X.K X.mg X.base C m k n sp) (hr : Room k X.A) (tk : Takes X W) (ho : DE X W o da)
    (ht : eval (.Call (.Attribute o m apos) [] [] pos) X.env = (do
      let ov ← eval o X.env
      standAt apos.atName
      let (f, first) ← holding [ov] (getMethod ov m pl)
      callWith pos f first (backTo pos (starEach [] X.env)) (backToKw pos (keywordEach [] X.env))) := by rfl) : DE X W (.Call (.Attribute o m apos) [] [] pos) (dMethG C m n qf sp da dNil) := by
  obtain ⟨f, fd, ps, F, hm, hb⟩ := F.ex
  refine peI (pe_meth0S ho c hm F hr hb (fun σ => passAt tk σ) ht) fun σ H R ⟨Φ, ρ, G, as, μ, Q, Ex, sr, rp, q, lx, k⟩ => ?_
  refine ⟨Φ, ρ, G, as, μ, _, Ex, sr, rp, q, lx, fun G1 as1 μ1 H1 v d g1 rp1 d1 ⟨⟨fs, hi, hl⟩, hn, q1⟩ => ?_⟩
  obtain ⟨a, dx, vs, rfl, ha, hf⟩ := ins_at rp1 d1 hi
  exact ⟨a, dx, vs, rfl, ha, hf.look.2 hl, call_up t2 hn rp1 (.cons d1 .nil) q1 (lx.mono g1) fun G' as' μ' H' v d g' => k G' as' μ' H' v d (g1.trans g')⟩
end
end DL

/-! DLe: operators, lists, texts, tests of kind, by values. -/
namespace DL
open PySem PySem.Spec PyProof.Rows L2

/-! ### rules by values, their answers settled or fresh -/
abbrev RR1 := D → Mu → QR → Prop
abbrev RR2 := D → D → Mu → QR → Prop
abbrev RRs := List D → Mu → QR → Prop
def KQ (K : PySem.W.Frag) (Φ G : Hp) (as : List Addr) (q : QR) (R : VK) : Prop := ∀ (G' : Hp) (as' : List Addr) (μ' : Mu) (H' : Hp) (v : V) (r : Res), Gr G as G' as' → Rep K Φ G' as' μ' H' → RDat K Φ G' as' H' v r → q r μ' → R v H'
structure R1 (K : PySem.W.Frag) (r : V → Hp → VK → Prop) (dr : RR1) : Prop where
  go : ∀ (Φ G : Hp) (as : List Addr) (μ : Mu) (H : Hp) (x : V) (dx : D) (q : QR) (R : VK), Rep K Φ G as μ H → Dat K G as x dx → dr dx μ q → KQ K Φ G as q R → r x H R
structure R2' (K : PySem.W.Frag) (r : R2) (dr : RR2) : Prop where
  go : ∀ (Φ G : Hp) (as : List Addr) (μ : Mu) (H : Hp) (x y : V) (dx dy : D) (q : QR) (R : VK), Rep K Φ G as μ H → Dat K G as x dx → Dat K G as y dy → dr dx dy μ q → KQ K Φ G as q R → r x y H R
structure Rs (K : PySem.W.Frag) (r : List V → Hp → VK → Prop) (dr : RRs) : Prop where
  go : ∀ (Φ G : Hp) (as : List Addr) (μ : Mu) (H : Hp) (xs : List V) (ds : List D) (q : QR) (R : VK), Rep K Φ G as μ H → Dats K G as xs ds → dr ds μ q → KQ K Φ G as q R → r xs H R
section
variable {K : PySem.W.Frag} {qf : DQ → QR}
theorem kq_of {Φ G : Hp} {as : List Addr} {Q : DQ} {R : VK} (t2 : Takes2 qf) (k : ∀ (G' : Hp) (as' : List Addr) (μ' : Mu) (H' : Hp) (v : V) (d : D), Gr G as G' as' → Rep K Φ G' as' μ' H' → Dat K G' as' v d → Q d μ' → R v H') : KQ K Φ G as (qf Q) R := fun G' as' μ' H' v r g rp rd q => by
  obtain ⟨G2, as2, μ2, d, g2, r2, d2, q2⟩ := t2 K Φ G' as' μ' H' v r Q rp rd q
  exact k G2 as2 μ2 H' v d (g.trans g2) r2 d2 q2
theorem R1.to {r : V → Hp → VK → Prop} {dr : RR1} (h : R1 K r dr) (t2 : Takes2 qf) : L1 K r (fun x μ Q => dr x μ (qf Q)) := fun Φ G as μ H x dx Q R rp d q k => h.go Φ G as μ H x dx _ R rp d q (kq_of t2 k)
theorem R2'.to {r : R2} {dr : RR2} (h : R2' K r dr) (t2 : Takes2 qf) : L2' K r (fun x y μ Q => dr x y μ (qf Q)) := fun Φ G as μ H x y dx dy Q R rp d1 d2 q k => h.go Φ G as μ H x y dx dy _ R rp d1 d2 q (kq_of t2 k)
theorem Rs.to {r : List V → Hp → VK → Prop} {dr : RRs} (h : Rs K r dr) (t2 : Takes2 qf) : Ls K r (fun xs μ Q => dr xs μ (qf Q)) := fun Φ G as μ H xs ds Q R rp d q k => h.go Φ G as μ H xs ds _ R rp d q (kq_of t2 k)
/-- something new lies on the floor -/
theorem floor {Φ G : Hp} {as : List Addr} {μ : Mu} {H : Hp} {q : QR} {R : VK} {p : Addr} {o : HO} {m : MO} (rp : Rep K Φ G as μ H) (hp : H p = none) (hm : MOk K G as m (some o)) (qm : q (.fresh m) μ) (k : KQ K Φ G as q R) : R (.ref p) (upd H p o) := by
  refine k G as μ (upd H p o) (.ref p) (.fresh m) (Gr.refl _ _) ⟨same_upd3 rp.same (rp.gfree hp), rp.len, rp.nd, fun a ma => ?_, same_upd3 rp.fr (rp.pfree hp), rp.frG, rp.frA, fun i a m h1 h2 h3 => ?_⟩ ⟨p, o, rfl, upd_same, rp.gfree hp, rp.afree hp, rp.pfree hp, hm⟩ qm
  · have ne : a ≠ p := fun e => rp.there a ma (e ▸ hp)
    rw [upd_ne ne]; exact rp.there a ma
  · have ne : a ≠ p := fun e => rp.there a (List.mem_of_getElem? h1) (e ▸ hp)
    rw [upd_ne ne]; exact rp.ok i a m h1 h2 h3
theorem given {Φ G : Hp} {as : List Addr} {μ : Mu} {H : Hp} {q : QR} {R : VK} {v : V} {d : D} (rp : Rep K Φ G as μ H) (hd : Dat K G as v d) (qd : q (.val d) μ) (k : KQ K Φ G as q R) : R v H := k G as μ H v (.val d) (Gr.refl _ _) rp hd qd
end
section
variable {X : Cx} {W : WX} {a b e o : Expr} {es : List Expr} {da db : DTE} {ta : DTA} {pos p apos : Pos} {x : Str} {id T : String} {qf : DQ → QR}
def vOp (qf : DQ → QR) (dr : RR2) (ta tb : DTE) : DTE := dOp (fun x y μ Q => dr x y μ (qf Q)) ta tb
def vUn (qf : DQ → QR) (dr : RR1) (ta : DTE) : DTE := dUn (fun x μ Q => dr x μ (qf Q)) ta
def vCB (qf : DQ → QR) (dr : RRs) (ta : DTA) : DTE := dCB (fun xs μ Q => dr xs μ (qf Q)) ta
theorem ve_op {op : Operator} {r : R2} {dr : RR2} (ho : OpR X (binaryOp op) r) (hd : R2' X.K r dr) (t2 : Takes2 qf) (ha : DE X W a da) (hb : DE X W b db) : DE X W (.BinOp a op b pos) (vOp qf dr da db) := de_op ho (hd.to t2) ha hb
theorem ve_cmp {op : CmpOp} {r : R2} {dr : RR2} (ho : OpR X (compareOp op) r) (hd : R2' X.K r dr) (ha : DE X W a da) (hb : DE X W b db) (hm : behindInMarks op b = false := by first | exact nomark _ | rfl) : DE X W (.Compare a [op] [b] pos) (vOp resF dr da db) := de_cmpR ho (hd.to takesF) ha hb hm
theorem vt_cmp {op : CmpOp} {r : R2} {dr : RR2} (ho : OpR X (compareOp op) r) (hd : R2' X.K r dr) (ha : DE X W a da) (hb : DE X W b db) (hm : behindInMarks op b = false := by first | exact nomark _ | rfl) : DT X W (.Compare a [op] [b] pos) (dB (vOp resF dr da db)) := dt_cmpR ho (hd.to takesF) ha hb hm
theorem ve_ix {r : R2} {dr : RR2} (hr : IxR X r) (hd : R2' X.K r dr) (ha : DE X W a da) (hb : DE X W b db) (hs : PlainIx b := by intro _ _; rfl) : DE X W (.Subscript a b pos) (vOp resF dr da db) := de_ix hr (hd.to takesF) ha hb hs
theorem ve_un {op : UnaryOp} {r : V → Hp → VK → Prop} {dr : RR1} (ho : UnR X (unaryOp op) r) (hd : R1 X.K r dr) (ha : DE X W a da) : DE X W (.UnaryOp op a pos) (vUn resF dr da) := de_un ho (hd.to takesF) ha
theorem ve_callB {r : List V → Hp → VK → Prop} {dr : RRs} (hc : CallR X (.builtin id) r) (hd : Rs X.K r dr) (t2 : Takes2 qf) (hm : X.mg x = none) (hv : bootBuiltins x = some (.builtin id)) (ha : DA X W (e :: es) ta) (hg : Gl X x := by rfl) (hn : x ≠ "__name__" := by decide) (hdb : (x == ("__debug__" : Str)) = false := by decide)
    (he : starEach (e :: es) X.env = (false, eval e X.env) :: starEach es X.env := by rfl) (hpl : (backTo pos (starEach es X.env)).any (·.1) = false := by rfl) : DE X W (.Call (.Name x p) (e :: es) [] pos) (vCB qf dr ta) := de_callB hc (hd.to t2) hm hv ha hg hn hdb he hpl
theorem ve_callTy {r : List V → Hp → VK → Prop} {dr : RRs} (hc : CallR X (.type T) r) (hd : Rs X.K r dr) (t2 : Takes2 qf) (hm : X.mg x = none) (hv : bootBuiltins x = some (.type T)) (ha : DA X W (e :: es) ta) (hg : Gl X x := by rfl) (hn : x ≠ "__name__" := by decide) (hdb : (x == ("__debug__" : Str)) = false := by decide)
    (he : starEach (e :: es) X.env = (false, eval e X.env) :: starEach es X.env := by rfl) (hpl : (backTo pos (starEach es X.env)).any (·.1) = false := by rfl) : DE X W (.Call (.Name x p) (e :: es) [] pos) (vCB qf dr ta) := de_callTy hc (hd.to t2) hm hv ha hg hn hdb he hpl
end

/-! ### numbers -/
section
variable {K : PySem.W.Frag}
def vI (f : Int → Int → D) : RR2 := fun x y μ q => ∃ i j, x = .int i ∧ y = .int j ∧ q (.val (f i j)) μ
def vIc (C : Int → Int → Prop) (f : Int → Int → D) : RR2 := fun x y μ q => ∃ i j, x = .int i ∧ y = .int j ∧ C i j ∧ q (.val (f i j)) μ
theorem rI0_int {f : Int → Int → Int} : R2' K (rI0 fun i j => .int (f i j)) (vI fun i j => .int (f i j)) := ⟨fun Φ G as μ H x y dx dy q R rp d1 d2 ⟨i, j, e1, e2, h⟩ k => by
  subst e1 e2
  exact ⟨i, j, dat_int d1, dat_int d2, given rp (.int _) h k⟩⟩
theorem rI0_bl {f : Int → Int → Bool} : R2' K (rI0 fun i j => .bl (f i j)) (vI fun i j => .bl (f i j)) := ⟨fun Φ G as μ H x y dx dy q R rp d1 d2 ⟨i, j, e1, e2, h⟩ k => by
  subst e1 e2
  exact ⟨i, j, dat_int d1, dat_int d2, given rp (.bl _) h k⟩⟩
theorem rI_int {C : Int → Int → Prop} {f : Int → Int → Int} : R2' K (rI C fun i j => .int (f i j)) (vIc C fun i j => .int (f i j)) := ⟨fun Φ G as μ H x y dx dy q R rp d1 d2 ⟨i, j, e1, e2, c, h⟩ k => by
  subst e1 e2
  exact ⟨i, j, dat_int d1, dat_int d2, c, given rp (.int _) h k⟩⟩
theorem rU_int {f : Int → Int} : R1 K (rU fun i => .int (f i)) (fun x μ q => ∃ i, x = .int i ∧ q (.val (.int (f i))) μ) := ⟨fun Φ G as μ H x dx q R rp d1 ⟨i, e1, h⟩ k => by
  subst e1
  exact ⟨i, dat_int d1, given rp (.int _) h k⟩⟩

/-! ### equality: data as trees -/
mutual
def D.pd : D → PyData
  | .bl b => .bool b
  | .int i => .int i
  | .str x => .str x
  | .tup xs => .tuple (D.pdL xs)
  | .lst xs => .list (D.pdL xs)
  | .lsk xs => .list (D.pdL xs)
  | _ => .none
def D.pdL : List D → List PyData
  | [] => []
  | d :: ds => D.pd d :: D.pdL ds
end
mutual
/-- data of depth n at most -/
def D.ok : Nat → D → Bool
  | _, .non => true
  | _, .bl _ => true
  | _, .int _ => true
  | _, .str x => PyData.strOk x
  | n + 1, .tup xs => D.okL n xs
  | n + 1, .lst xs => D.okL n xs
  | n + 1, .lsk xs => D.okL n xs
  | _, _ => false
def D.okL : Nat → List D → Bool
  | _, [] => true
  | n, d :: ds => D.ok n d && D.okL n ds
end
mutual
theorem ok_shape : ∀ (n : Nat) (d : D), D.ok n d = true → (D.pd d).canLay0 = true ∧ (D.pd d).depth ≤ n
  | n, .non, _ => by simp [D.pd, PyData.canLay0, PyData.depth]
  | n, .bl b, _ => by simp [D.pd, PyData.canLay0, PyData.depth]
  | n, .int i, _ => by simp [D.pd, PyData.canLay0, PyData.depth]
  | n, .str x, h => by
    have h' : PyData.strOk x = true := by cases n <;> simpa [D.ok] using h
    simp [D.pd, PyData.canLay0, PyData.depth, h']
  | n + 1, .tup xs, h => by
    obtain ⟨h1, h2⟩ := okL_shape n xs (by simpa [D.ok] using h)
    simp [D.pd, PyData.canLay0, PyData.depth, h1]; omega
  | n + 1, .lst xs, h => by
    obtain ⟨h1, h2⟩ := okL_shape n xs (by simpa [D.ok] using h)
    simp [D.pd, PyData.canLay0, PyData.depth, h1]; omega
  | n + 1, .lsk xs, h => by
    obtain ⟨h1, h2⟩ := okL_shape n xs (by simpa [D.ok] using h)
    simp [D.pd, PyData.canLay0, PyData.depth, h1]; omega
  | 0, .tup xs, h => by simp [D.ok] at h
  | 0, .lst xs, h => by simp [D.ok] at h
  | 0, .lsk xs, h => by simp [D.ok] at h
  | n, .ty _, h => by cases n <;> simp [D.ok] at h
  | n, .ref _, h => by cases n <;> simp [D.ok] at h
  | n, .cell _, h => by cases n <;> simp [D.ok] at h
  | n, .dic _, h => by cases n <;> simp [D.ok] at h
  | n, .obj _ _ _, h => by cases n <;> simp [D.ok] at h
theorem okL_shape : ∀ (n : Nat) (ds : List D), D.okL n ds = true → PyData.canLayAll0 (D.pdL ds) = true ∧ PyData.depthAll (D.pdL ds) ≤ n
  | n, [], _ => by simp [D.pdL, PyData.canLayAll0, PyData.depthAll]
  | n, d :: ds, h => by
    rw [D.okL, Bool.and_eq_true] at h
    obtain ⟨h1, h2⟩ := ok_shape n d h.1
    obtain ⟨h3, h4⟩ := okL_shape n ds h.2
    simp [D.pdL, PyData.canLayAll0, PyData.depthAll, h1, h3]; omega
end
theorem ok_shaped {d : D} (h : D.ok 64 d = true) : SeqAt.shaped (D.pd d) = true := by
  obtain ⟨h1, h2⟩ := ok_shape 64 d h
  unfold SeqAt.shaped
  rw [h1, decide_eq_true h2] <;> rfl
mutual
theorem dat_dp {G : Hp} {as : List Addr} {H : Hp} (s : Same G H) : ∀ {n : Nat} {v : V} {d : D}, D.ok n d = true → Dat K G as v d → Dp K H v (D.pd d)
  | _, _, _, _, .non => .non
  | _, _, _, _, .bl b => .bl b
  | _, _, _, _, .int i => .int i
  | _, _, _, _, .str x => .str x
  | n + 1, _, _, h, .tup hT hs => .tup (Same.sqT s hT) (dats_dp s (n := n) (by simpa [D.ok] using h) hs)
  | n + 1, _, _, h, .lst hT hs => .lst (SqL.of (s _ _ hT)) (dats_dp s (n := n) (by simpa [D.ok] using h) hs)
  | n + 1, _, _, h, .lsk hT hs => .lst (s.seq hT) (dats_dp s (n := n) (by simpa [D.ok] using h) hs)
  | 0, _, _, h, .tup hT hs => by simp [D.ok] at h
  | 0, _, _, h, .lst hT hs => by simp [D.ok] at h
  | 0, _, _, h, .lsk hT hs => by simp [D.ok] at h
  | n, _, _, h, .ty _ => by cases n <;> simp [D.ok] at h
  | n, _, _, h, .ref _ => by cases n <;> simp [D.ok] at h
  | n, _, _, h, .cell _ => by cases n <;> simp [D.ok] at h
  | n, _, _, h, .dic _ _ => by cases n <;> simp [D.ok] at h
  | n, _, _, h, .obj _ _ => by cases n <;> simp [D.ok] at h
theorem dats_dp {G : Hp} {as : List Addr} {H : Hp} (s : Same G H) : ∀ {n : Nat} {v : List V} {d : List D}, D.okL n d = true → Dats K G as v d → DpAll K H v (D.pdL d)
  | _, _, _, _, .nil => .nil
  | n, _, _, h, .cons h1 t => by
    rw [D.okL, Bool.and_eq_true] at h
    exact .cons (dat_dp s h.1 h1) (dats_dp s h.2 t)
end
/-- == of trees -/
def deq (x y : D) : Bool := PyData.eqv (D.pd x) (D.pd y)
def deqL (x y : List D) : Bool := PyData.eqvAll (D.pdL x) (D.pdL y)
/-- a cell's list, seen as a tree -/
def seen (μ : Mu) : D → D
  | .cell i => match μ[i]? with
    | some (.lst ds) => .lst ds
    | _ => .cell i
  | d => d
theorem seen_dp {Φ G : Hp} {as : List Addr} {μ : Mu} {H : Hp} {v : V} {d : D} (rp : Rep K Φ G as μ H) (hd : Dat K G as v d) (h : D.ok 64 (seen μ d) = true) : Dp K H v (D.pd (seen μ d)) := by
  cases d with
  | cell i =>
    cases hd with
    | @cell a _ ha =>
      cases e : μ[i]? with
      | none => simp [seen, e, D.ok] at h
      | some m =>
        cases m with
        | lst ds =>
          obtain ⟨_, vs, h1, h2⟩ := rp.ok i a _ ha e (by simp)
          simp only [seen, e] at h ⊢
          exact .lst (SqL.of h1) (dats_dp rp.same (n := 63) (by simpa [D.ok] using h) h2)
        | gone => simp [seen, e, D.ok] at h
        | dic _ => simp [seen, e, D.ok] at h
        | dit _ => simp [seen, e, D.ok] at h
        | ins _ _ => simp [seen, e, D.ok] at h
  | non => exact dat_dp rp.same h hd
  | bl _ => exact dat_dp rp.same h hd
  | int _ => exact dat_dp rp.same h hd
  | str _ => exact dat_dp rp.same h hd
  | ty _ => exact dat_dp rp.same h hd
  | ref _ => exact dat_dp rp.same h hd
  | tup _ => exact dat_dp rp.same h hd
  | lst _ => exact dat_dp rp.same h hd
  | lsk _ => exact dat_dp rp.same h hd
  | dic _ => exact dat_dp rp.same h hd
  | obj _ _ _ => exact dat_dp rp.same h hd
def vEq : RR2 := fun x y μ q => D.ok 64 (seen μ x) = true ∧ D.ok 64 (seen μ y) = true ∧ q (.val (.bl (deq (seen μ x) (seen μ y)))) μ
def vNe : RR2 := fun x y μ q => D.ok 64 (seen μ x) = true ∧ D.ok 64 (seen μ y) = true ∧ q (.val (.bl (!deq (seen μ x) (seen μ y)))) μ
theorem rEqD_v : R2' K (rEqD K) vEq := ⟨fun Φ G as μ H x y dx dy q R rp d1 d2 ⟨o1, o2, h⟩ k => ⟨_, _, seen_dp rp d1 o1, seen_dp rp d2 o2, ok_shaped o1, ok_shaped o2, given rp (.bl _) h k⟩⟩
theorem rNeD_v : R2' K (rNeD K) vNe := ⟨fun Φ G as μ H x y dx dy q R rp d1 d2 ⟨o1, o2, h⟩ k => ⟨_, _, seen_dp rp d1 o1, seen_dp rp d2 o2, ok_shaped o1, ok_shaped o2, given rp (.bl _) h k⟩⟩
/-- x in xs, flat things in a list or a tuple -/
def flatD : D → Option V
  | .non => some .non
  | .bl b => some (.bl b)
  | .int i => some (.int i)
  | .str x => some (.str x)
  | _ => none
def flatDs : List D → Option (List V)
  | [] => some []
  | d :: ds => match flatD d, flatDs ds with
    | some v, some vs => some (v :: vs)
    | _, _ => none
theorem flat_dat {G : Hp} {as : List Addr} {v u : V} {d : D} (h : Dat K G as v d) (e : flatD d = some u) : v = u ∧ flatV v = true := by
  cases h <;> cases e <;> exact ⟨rfl, rfl⟩
theorem flats_dat {G : Hp} {as : List Addr} : ∀ {vs us : List V} {ds : List D}, Dats K G as vs ds → flatDs ds = some us → vs = us ∧ vs.all flatV = true
  | _, _, _, .nil, e => by cases e; exact ⟨rfl, rfl⟩
  | _, us, d :: ds, .cons h t, e => by
    unfold flatDs at e
    cases e1 : flatD d with
    | none => rw [e1] at e; cases e
    | some v =>
      cases e2 : flatDs ds with
      | none => rw [e1, e2] at e; cases e
      | some vs =>
        rw [e1, e2] at e
        cases e
        obtain ⟨rfl, f1⟩ := flat_dat h e1
        obtain ⟨rfl, f2⟩ := flats_dat t e2
        exact ⟨rfl, by rw [List.all_cons, f1, f2] <;> rfl⟩
/-- == by one of the two ways -/
def vEqB : RR2 := fun x y μ q => (∃ u v, flatD x = some u ∧ flatD y = some v ∧ scal u v = true ∧ q (.val (.bl (decide (u = v)))) μ) ∨ vEq x y μ q
def vNeB : RR2 := fun x y μ q => (∃ u v, flatD x = some u ∧ flatD y = some v ∧ scal u v = true ∧ q (.val (.bl (!decide (u = v)))) μ) ∨ vNe x y μ q
theorem rEqB_v : R2' K (fun x y H Q => rEq x y H Q ∨ rEqD K x y H Q) vEqB := ⟨fun Φ G as μ H x y dx dy q R rp d1 d2 h k => by
  rcases h with ⟨u, v, e1, e2, e3, h⟩ | h
  · obtain ⟨rfl, _⟩ := flat_dat d1 e1
    obtain ⟨rfl, _⟩ := flat_dat d2 e2
    exact .inl ⟨e3, given rp (.bl _) h k⟩
  · exact .inr (rEqD_v.go Φ G as μ H x y dx dy q R rp d1 d2 h k)⟩
theorem rNeB_v : R2' K (fun x y H Q => rNe x y H Q ∨ rNeD K x y H Q) vNeB := ⟨fun Φ G as μ H x y dx dy q R rp d1 d2 h k => by
  rcases h with ⟨u, v, e1, e2, e3, h⟩ | h
  · obtain ⟨rfl, _⟩ := flat_dat d1 e1
    obtain ⟨rfl, _⟩ := flat_dat d2 e2
    exact .inl ⟨e3, given rp (.bl _) h k⟩
  · exact .inr (rNeD_v.go Φ G as μ H x y dx dy q R rp d1 d2 h k)⟩
theorem op_eqB {X : Cx} (hu : X.A.units + 64 < cLine) : OpR X (compareOp .Eq) (fun x y H Q => rEq x y H Q ∨ rEqD X.K x y H Q) := op_eq.or (op_eqD hu)
theorem op_neB {X : Cx} (hu : X.A.units + 64 < cLine) : OpR X (compareOp .NotEq) (fun x y H Q => rNe x y H Q ∨ rNeD X.K x y H Q) := op_ne.or (op_neD hu)
@[simp] theorem deq_int {i j : Int} : deq (.int i) (.int j) = decide (i = j) := by simp [deq, D.pd, PyData.eqv]; rfl
@[simp] theorem deq_bl {i j : Bool} : deq (.bl i) (.bl j) = decide (i = j) := by cases i <;> cases j <;> simp [deq, D.pd, PyData.eqv]
@[simp] theorem deq_str {i j : Str} : deq (.str i) (.str j) = decide (i = j) := by
  show (i == j) = _
  rw [Bool.eq_iff_iff]; simp
theorem deq_lst {xs ys : List D} : deq (.lst xs) (.lst ys) = deqL xs ys := by simp [deq, deqL, D.pd, PyData.eqv]
theorem deq_tup {xs ys : List D} : deq (.tup xs) (.tup ys) = deqL xs ys := by simp [deq, deqL, D.pd, PyData.eqv]
@[simp] theorem deqL_nil : deqL [] [] = true := by simp [deqL, D.pdL, PyData.eqvAll]
@[simp] theorem deqL_cons {x y : D} {xs ys : List D} : deqL (x :: xs) (y :: ys) = (deq x y && deqL xs ys) := by simp [deqL, deq, D.pdL, PyData.eqvAll]
@[simp] theorem deqL_nc {y : D} {ys : List D} : deqL [] (y :: ys) = false := by simp [deqL, D.pdL, PyData.eqvAll]
@[simp] theorem deqL_cn {y : D} {ys : List D} : deqL (y :: ys) [] = false := by simp [deqL, D.pdL, PyData.eqvAll]
theorem deqL_map {α : Type} [DecidableEq α] {f : α → D} (h : ∀ a b, deq (f a) (f b) = decide (a = b)) : ∀ xs ys : List α, deqL (xs.map f) (ys.map f) = decide (xs = ys)
  | [], [] => by simp
  | [], y :: ys => by simp
  | x :: xs, [] => by simp
  | x :: xs, y :: ys => by
    simp only [List.map_cons, deqL_cons, h, deqL_map h xs ys]
    rw [Bool.eq_iff_iff]; simp
theorem okL_map {α : Type} {f : α → D} {n : Nat} : ∀ xs : List α, (∀ a ∈ xs, D.ok n (f a) = true) → D.okL n (xs.map f) = true
  | [], _ => by simp [D.okL]
  | x :: xs, h => by
    simp [D.okL, h x (by simp), okL_map xs fun a ha => h a (by simp [ha])]
@[simp] theorem ok_non {n : Nat} : D.ok n .non = true := by cases n <;> rfl
@[simp] theorem ok_bl {n : Nat} {b : Bool} : D.ok n (.bl b) = true := by cases n <;> rfl
@[simp] theorem ok_int {n : Nat} {b : Int} : D.ok n (.int b) = true := by cases n <;> rfl
@[simp] theorem ok_str {n : Nat} {b : Str} : D.ok n (.str b) = PyData.strOk b := by cases n <;> rfl
@[simp] theorem ok_tup {n : Nat} {b : List D} : D.ok (n + 1) (.tup b) = D.okL n b := by simp [D.ok]
@[simp] theorem ok_lst {n : Nat} {b : List D} : D.ok (n + 1) (.lst b) = D.okL n b := by simp [D.ok]
@[simp] theorem ok_lsk {n : Nat} {b : List D} : D.ok (n + 1) (.lsk b) = D.okL n b := by simp [D.ok]
@[simp] theorem okL_nil {n : Nat} : D.okL n [] = true := by simp [D.okL]
@[simp] theorem okL_cons {n : Nat} {d : D} {b : List D} : D.okL n (d :: b) = (D.ok n d && D.okL n b) := by simp [D.okL]
/-- is None -/
theorem rIsN_v : R2' K (fun x y H Q => y = .non ∧ Q (.bl (decide (x = .non))) H) (fun x y μ q => y = .non ∧ q (.val (.bl (match x with | .non => true | _ => false))) μ) := ⟨fun Φ G as μ H x y dx dy q R rp d1 d2 ⟨e, h⟩ k => by
  subst e
  refine ⟨dat_non d2, given rp ?_ h k⟩
  cases d1 <;> exact .bl _⟩
theorem rNotN_v : R2' K (fun x y H Q => y = .non ∧ Q (.bl (!decide (x = .non))) H) (fun x y μ q => y = .non ∧ q (.val (.bl (match x with | .non => false | _ => true))) μ) := ⟨fun Φ G as μ H x y dx dy q R rp d1 d2 ⟨e, h⟩ k => by
  subst e
  refine ⟨dat_non d2, given rp ?_ h k⟩
  cases d1 <;> exact .bl _⟩

/-! ### lists as they are seen -/
def asL (μ : Mu) : D → Option (List D)
  | .lst ds => some ds
  | .lsk ds => some ds
  | .cell i => match μ[i]? with
    | some (.lst ds) => some ds
    | _ => none
  | _ => none
def asX (μ : Mu) : D → Option (List D)
  | .lst ds => some ds
  | .cell i => match μ[i]? with
    | some (.lst ds) => some ds
    | _ => none
  | _ => none
theorem asL_at {Φ G : Hp} {as : List Addr} {μ : Mu} {H : Hp} {v : V} {d : D} {ds : List D} (rp : Rep K Φ G as μ H) (hd : Dat K G as v d) (h : asL μ d = some ds) : ∃ a vs, v = .ref a ∧ SqL K H a vs ∧ Dats K G as vs ds := by
  cases hd with
  | lst hL hs => cases h; exact ⟨_, _, rfl, SqL.of (rp.same _ _ hL), hs⟩
  | lsk hL hs => cases h; exact ⟨_, _, rfl, rp.same.seq hL, hs⟩
  | @cell a i ha =>
    cases e : μ[i]? with
    | none => simp [asL, e] at h
    | some m =>
      simp only [asL, e] at h
      cases m with
      | lst xs =>
        cases h
        obtain ⟨_, vs, h1, h2⟩ := rp.ok i a _ ha e (by simp)
        exact ⟨a, vs, rfl, SqL.of h1, h2⟩
      | gone => cases h
      | dic _ => cases h
      | dit _ => cases h
      | ins _ _ => cases h
  | _ => cases h
theorem asX_at {Φ G : Hp} {as : List Addr} {μ : Mu} {H : Hp} {v : V} {d : D} {ds : List D} (rp : Rep K Φ G as μ H) (hd : Dat K G as v d) (h : asX μ d = some ds) : ∃ a vs, v = .ref a ∧ H a = some (.lst vs) ∧ Dats K G as vs ds := by
  cases hd with
  | lst hL hs => cases h; exact ⟨_, _, rfl, rp.same _ _ hL, hs⟩
  | @cell a i ha =>
    cases e : μ[i]? with
    | none => simp [asX, e] at h
    | some m =>
      simp only [asX, e] at h
      cases m with
      | lst xs =>
        cases h
        obtain ⟨_, vs, h1, h2⟩ := rp.ok i a _ ha e (by simp)
        exact ⟨a, vs, rfl, h1, h2⟩
      | gone => cases h
      | dic _ => cases h
      | dit _ => cases h
      | ins _ _ => cases h
  | _ => cases h
theorem tup_at {Φ G : Hp} {as : List Addr} {μ : Mu} {H : Hp} {v : V} {ds : List D} (rp : Rep K Φ G as μ H) (hd : Dat K G as v (.tup ds)) : ∃ a vs, v = .ref a ∧ SqT K H a vs ∧ Dats K G as vs ds := by
  cases hd with
  | tup hL hs => exact ⟨_, _, rfl, Same.sqT rp.same hL, hs⟩
/-- xs[i], t[i] -/
def vIxL : RR2 := fun x y μ q => ∃ ds i d, asL μ x = some ds ∧ y = .int i ∧ atI ds i = some d ∧ q (.val d) μ
def vIxT : RR2 := fun x y μ q => ∃ ds i d, x = .tup ds ∧ y = .int i ∧ atI ds i = some d ∧ q (.val d) μ
def vIxS : RR2 := fun x y μ q => ∃ z i c, x = .str z ∧ y = .int i ∧ z.length ≤ sizeLine ∧ atI z.cps.toList i = some c ∧ q (.val (.str ⟨#[c]⟩)) μ
theorem atI_dats {G : Hp} {as : List Addr} {vs : List V} {ds : List D} {i : Int} {d : D} (hs : Dats K G as vs ds) (h : atI ds i = some d) : ∃ v, atI vs i = some v ∧ Dat K G as v d := by
  unfold atI at h ⊢
  rw [← hs.length] at h
  cases e : ixN vs.length i with
  | none => rw [e] at h; cases h
  | some j =>
    rw [e] at h
    exact hs.get h
theorem rIxL_v : R2' K (rIxL K) vIxL := ⟨fun Φ G as μ H x y dx dy q R rp d1 d2 ⟨ds, i, d, e1, e2, e3, h⟩ k => by
  subst e2
  obtain ⟨a, vs, rfl, hL, hs⟩ := asL_at rp d1 e1
  obtain ⟨v, hv, hd⟩ := atI_dats hs e3
  exact ⟨a, vs, i, v, rfl, dat_int d2, hL, hv, given rp hd h k⟩⟩
theorem rIxT_v : R2' K (rIxT K) vIxT := ⟨fun Φ G as μ H x y dx dy q R rp d1 d2 ⟨ds, i, d, e1, e2, e3, h⟩ k => by
  subst e1 e2
  obtain ⟨a, vs, rfl, hL, hs⟩ := tup_at rp d1
  obtain ⟨v, hv, hd⟩ := atI_dats hs e3
  exact ⟨a, vs, i, v, rfl, dat_int d2, hL, hv, given rp hd h k⟩⟩
theorem rIxS_v : R2' K rIxS vIxS := ⟨fun Φ G as μ H x y dx dy q R rp d1 d2 ⟨z, i, c, e1, e2, hz, e3, h⟩ k => by
  subst e1 e2
  exact ⟨z, i, c, dat_str d1, dat_int d2, hz, e3, given rp (.str _) h k⟩⟩
/-- xs + ys, s + t -/
def vCat : RR2 := fun x y μ q => ∃ xs ys, asX μ x = some xs ∧ asX μ y = some ys ∧ xs.length + ys.length ≤ sizeLine ∧ q (.fresh (.lst (xs ++ ys))) μ
theorem rCat_v : R2' K rCat vCat := ⟨fun Φ G as μ H x y dx dy q R rp d1 d2 ⟨xs, ys, e1, e2, hz, h⟩ k => by
  obtain ⟨a, vs, rfl, hL, hs⟩ := asX_at rp d1 e1
  obtain ⟨b, ws, rfl, hL', hs'⟩ := asX_at rp d2 e2
  exact ⟨a, b, vs, ws, rfl, rfl, hL, hL', by rw [hs.length, hs'.length]; exact hz, fun p hp => floor (m := .lst (xs ++ ys)) rp hp ⟨_, rfl, hs.append hs'⟩ h k⟩⟩
def vCatS : RR2 := fun x y μ q => ∃ i j, x = .str i ∧ y = .str j ∧ i.length + j.length ≤ sizeLine ∧ q (.val (.str (i ++ j))) μ
theorem rCatS_v : R2' K (fun x y H Q => ∃ i j, x = .str i ∧ y = .str j ∧ i.length + j.length ≤ sizeLine ∧ Q (.str (i ++ j)) H) vCatS := ⟨fun Φ G as μ H x y dx dy q R rp d1 d2 ⟨i, j, e1, e2, hz, h⟩ k => by
  subst e1 e2
  exact ⟨i, j, dat_str d1, dat_str d2, hz, given rp (.str _) h k⟩⟩
def asS (μ : Mu) : D → Option (List D)
  | .tup ds => some ds
  | d => asL μ d
def vIn (neg : Bool) : RR2 := fun x y μ q => ∃ ds u us, asS μ y = some ds ∧ flatD x = some u ∧ flatDs ds = some us ∧ q (.val (.bl (if neg then !inV u us else inV u us))) μ
theorem asS_at {Φ G : Hp} {as : List Addr} {μ : Mu} {H : Hp} {v : V} {d : D} {ds : List D} (rp : Rep K Φ G as μ H) (hd : Dat K G as v d) (h : asS μ d = some ds) : ∃ a vs, v = .ref a ∧ (SqL K H a vs ∨ SqT K H a vs) ∧ Dats K G as vs ds := by
  cases d with
  | tup xs =>
    cases h
    obtain ⟨a, vs, e, hT, hs⟩ := tup_at rp hd
    exact ⟨a, vs, e, .inr hT, hs⟩
  | lst xs => obtain ⟨a, vs, e, hT, hs⟩ := asL_at rp hd h; exact ⟨a, vs, e, .inl hT, hs⟩
  | lsk xs => obtain ⟨a, vs, e, hT, hs⟩ := asL_at rp hd h; exact ⟨a, vs, e, .inl hT, hs⟩
  | cell xs => obtain ⟨a, vs, e, hT, hs⟩ := asL_at rp hd h; exact ⟨a, vs, e, .inl hT, hs⟩
  | _ => cases h
theorem rIn_v {neg : Bool} : R2' K (rIn K neg) (vIn neg) := ⟨fun Φ G as μ H x y dx dy q R rp d1 d2 ⟨ds, u, us, e1, e2, e3, h⟩ k => by
  obtain ⟨a, vs, rfl, hS, hs⟩ := asS_at rp d2 e1
  obtain ⟨rfl, f1⟩ := flat_dat d1 e2
  obtain ⟨rfl, f2⟩ := flats_dat hs e3
  exact ⟨a, vs, rfl, hS, f1, f2, given rp (.bl _) h k⟩⟩
theorem flatDs_str : ∀ xs : List Str, flatDs (xs.map D.str) = some (xs.map V.str)
  | [] => rfl
  | x :: xs => by simp [flatDs, flatD, flatDs_str xs]
theorem inV_str (x : Str) (xs : List Str) : inV (.str x) (xs.map V.str) = decide (x ∈ xs) := by
  unfold inV
  rw [Bool.eq_iff_iff, List.any_eq_true, decide_eq_true_iff]
  constructor
  · rintro ⟨v, hv, h⟩
    obtain ⟨y, hy, rfl⟩ := List.mem_map.mp hv
    have : y = x := by simpa [eqV] using h
    exact this ▸ hy
  · intro h
    exact ⟨.str x, List.mem_map.mpr ⟨x, h, rfl⟩, by simp [eqV]⟩
/-- one sign in a text -/
def vInC (neg : Bool) : RR2 := fun x y μ q => ∃ (c : Nat) (z : Str), x = .str ⟨#[c]⟩ ∧ y = .str z ∧ q (.val (.bl (if neg then !decide (c ∈ z.cps.toList) else decide (c ∈ z.cps.toList)))) μ
theorem rInC_v : R2' K (fun x y H Q => ∃ (c : Nat) (z : Str), x = .str ⟨#[c]⟩ ∧ y = .str z ∧ Q (.bl (decide (c ∈ z.cps.toList))) H) (vInC false) := ⟨fun Φ G as μ H x y dx dy q R rp d1 d2 ⟨c, z, e1, e2, h⟩ k => by
  subst e1 e2
  exact ⟨c, z, dat_str d1, dat_str d2, given rp (.bl _) h k⟩⟩
theorem rNotInC_v : R2' K (fun x y H Q => ∃ (c : Nat) (z : Str), x = .str ⟨#[c]⟩ ∧ y = .str z ∧ Q (.bl (!decide (c ∈ z.cps.toList))) H) (vInC true) := ⟨fun Φ G as μ H x y dx dy q R rp d1 d2 ⟨c, z, e1, e2, h⟩ k => by
  subst e1 e2
  exact ⟨c, z, dat_str d1, dat_str d2, given rp (.bl _) h k⟩⟩

/-! ### calls of builtins -/
def vLen : RRs := fun xs μ q => ∃ d ds, xs = [d] ∧ asS μ d = some ds ∧ q (.val (.int (ds.length : Nat))) μ
theorem rLen_v : Rs K (fun xs H Q => ∃ p ys, xs = [.ref p] ∧ (SqL K H p ys ∨ SqT K H p ys) ∧ Q (.int ys.length) H) vLen := ⟨fun Φ G as μ H xs dds q R rp dd ⟨d, ds, e1, e2, h⟩ k => by
  subst e1
  obtain ⟨v, rfl, hd⟩ := dats1 dd
  obtain ⟨a, vs, rfl, hS, hs⟩ := asS_at rp hd e2
  exact ⟨a, vs, rfl, hS, by rw [hs.length]; exact given rp (.int _) h k⟩⟩
def vLenS : RRs := fun xs μ q => ∃ z, xs = [.str z] ∧ z.length ≤ sizeLine ∧ q (.val (.int (z.length : Nat))) μ
theorem rLenS_v : Rs K (fun xs H Q => ∃ z, xs = [.str z] ∧ z.length ≤ sizeLine ∧ Q (.int z.length) H) vLenS := ⟨fun Φ G as μ H xs dds q R rp dd ⟨z, e1, e2, h⟩ k => by
  subst e1
  obtain ⟨v, rfl, hd⟩ := dats1 dd
  exact ⟨z, by rw [dat_str hd], e2, given rp (.int _) h k⟩⟩
def vList : RRs := fun xs μ q => ∃ d ds, xs = [d] ∧ asS μ d = some ds ∧ q (.fresh (.lst ds)) μ
theorem rList_v : Rs K (fun xs H Q => ∃ p ys, xs = [.ref p] ∧ (SqL K H p ys ∨ SqT K H p ys) ∧ ∀ l, H l = none → Q (.ref l) (upd H l (.lst ys))) vList := ⟨fun Φ G as μ H xs dds q R rp dd ⟨d, ds, e1, e2, h⟩ k => by
  subst e1
  obtain ⟨v, rfl, hd⟩ := dats1 dd
  obtain ⟨a, vs, rfl, hS, hs⟩ := asS_at rp hd e2
  exact ⟨a, vs, rfl, hS, fun l hl => floor (m := .lst ds) rp hl ⟨_, rfl, hs⟩ h k⟩⟩
def vTuple : RRs := fun xs μ q => ∃ d ds, xs = [d] ∧ asL μ d = some ds ∧ q (.val (.tup ds)) μ
theorem rTuple_v : Rs K (fun xs H Q => ∃ p ys, xs = [.ref p] ∧ ((SqL K H p ys ∧ ∀ l, H l = none → Q (.ref l) (upd H l (.tup ys))) ∨ (SqT K H p ys ∧ Q (.ref p) H))) vTuple := ⟨fun Φ G as μ H xs dds q R rp dd ⟨d, ds, e1, e2, h⟩ k => by
  subst e1
  obtain ⟨v, rfl, hd⟩ := dats1 dd
  obtain ⟨a, vs, rfl, hS, hs⟩ := asL_at rp hd e2
  refine ⟨a, vs, rfl, .inl ⟨hS, fun l hl => ?_⟩⟩
  obtain ⟨g, rp'⟩ := rp.grow (o := .tup vs) hl
  exact k _ _ _ _ _ (.val (.tup ds)) g rp' (.tup (SqT.of upd_same) (hs.mono g)) h⟩
/-- all(xs), any(xs) of truths; sum, max, min of numbers -/
def blsD : List D → Option (List Bool)
  | [] => some []
  | .bl b :: ds => (blsD ds).map (b :: ·)
  | _ :: _ => none
def intsD : List D → Option (List Int)
  | [] => some []
  | .int b :: ds => (intsD ds).map (b :: ·)
  | _ :: _ => none
theorem bls_dat {G : Hp} {as : List Addr} : ∀ {vs : List V} {ds : List D} {bs : List Bool}, Dats K G as vs ds → blsD ds = some bs → vs = bs.map V.bl
  | _, _, _, .nil, e => by cases e; rfl
  | _, .bl b :: ds, bs, .cons h t, e => by
    unfold blsD at e
    cases e2 : blsD ds with
    | none => rw [e2] at e; cases e
    | some cs =>
      rw [e2] at e
      cases e
      rw [dat_bl h, bls_dat t e2] <;> rfl
theorem ints_dat {G : Hp} {as : List Addr} : ∀ {vs : List V} {ds : List D} {bs : List Int}, Dats K G as vs ds → intsD ds = some bs → vs = bs.map V.int
  | _, _, _, .nil, e => by cases e; rfl
  | _, .int b :: ds, bs, .cons h t, e => by
    unfold intsD at e
    cases e2 : intsD ds with
    | none => rw [e2] at e; cases e
    | some cs =>
      rw [e2] at e
      cases e
      rw [dat_int h, ints_dat t e2] <;> rfl
theorem blsD_map (bs : List Bool) : blsD (bs.map D.bl) = some bs := by
  induction bs with
  | nil => rfl
  | cons b bs ih => simp [blsD, ih]
theorem intsD_map (bs : List Int) : intsD (bs.map D.int) = some bs := by
  induction bs with
  | nil => rfl
  | cons b bs ih => simp [intsD, ih]
def vAll : RRs := fun xs μ q => ∃ d ds bs, xs = [d] ∧ asL μ d = some ds ∧ blsD ds = some bs ∧ q (.val (.bl (bs.all id))) μ
def vAny : RRs := fun xs μ q => ∃ d ds bs, xs = [d] ∧ asL μ d = some ds ∧ blsD ds = some bs ∧ q (.val (.bl (bs.any id))) μ
theorem rAll_v : Rs K (rAll K) vAll := ⟨fun Φ G as μ H xs dds q R rp dd ⟨d, ds, bs, e1, e2, e3, h⟩ k => by
  subst e1
  obtain ⟨v, rfl, hd⟩ := dats1 dd
  obtain ⟨a, vs, rfl, hS, hs⟩ := asL_at rp hd e2
  have := bls_dat hs e3
  subst this
  exact ⟨a, bs, rfl, hS, given rp (.bl _) h k⟩⟩
theorem rAny_v : Rs K (rAny K) vAny := ⟨fun Φ G as μ H xs dds q R rp dd ⟨d, ds, bs, e1, e2, e3, h⟩ k => by
  subst e1
  obtain ⟨v, rfl, hd⟩ := dats1 dd
  obtain ⟨a, vs, rfl, hS, hs⟩ := asL_at rp hd e2
  have := bls_dat hs e3
  subst this
  exact ⟨a, bs, rfl, hS, given rp (.bl _) h k⟩⟩
def vSum : RRs := fun xs μ q => ∃ d ds bs, xs = [d] ∧ asL μ d = some ds ∧ intsD ds = some bs ∧ q (.val (.int bs.sum)) μ
theorem rSum_v : Rs K (rSum K) vSum := ⟨fun Φ G as μ H xs dds q R rp dd ⟨d, ds, bs, e1, e2, e3, h⟩ k => by
  subst e1
  obtain ⟨v, rfl, hd⟩ := dats1 dd
  obtain ⟨a, vs, rfl, hS, hs⟩ := asL_at rp hd e2
  have := ints_dat hs e3
  subst this
  exact ⟨a, bs, rfl, hS, given rp (.int _) h k⟩⟩
def vMax : RRs := fun xs μ q => ∃ d ds bs, xs = [d] ∧ asL μ d = some ds ∧ intsD ds = some bs ∧ 0 < bs.length ∧ ∀ m, m ∈ bs → (∀ y, y ∈ bs → y ≤ m) → q (.val (.int m)) μ
def vMin : RRs := fun xs μ q => ∃ d ds bs, xs = [d] ∧ asL μ d = some ds ∧ intsD ds = some bs ∧ 0 < bs.length ∧ ∀ m, m ∈ bs → (∀ y, y ∈ bs → m ≤ y) → q (.val (.int m)) μ
theorem rMax_v : Rs K (rMax K) vMax := ⟨fun Φ G as μ H xs dds q R rp dd ⟨d, ds, bs, e1, e2, e3, h0, h⟩ k => by
  subst e1
  obtain ⟨v, rfl, hd⟩ := dats1 dd
  obtain ⟨a, vs, rfl, hS, hs⟩ := asL_at rp hd e2
  have := ints_dat hs e3
  subst this
  exact ⟨a, bs, rfl, hS, h0, fun m h1 h2 => given rp (.int _) (h m h1 h2) k⟩⟩
theorem rMin_v : Rs K (rMin K) vMin := ⟨fun Φ G as μ H xs dds q R rp dd ⟨d, ds, bs, e1, e2, e3, h0, h⟩ k => by
  subst e1
  obtain ⟨v, rfl, hd⟩ := dats1 dd
  obtain ⟨a, vs, rfl, hS, hs⟩ := asL_at rp hd e2
  have := ints_dat hs e3
  subst this
  exact ⟨a, bs, rfl, hS, h0, fun m h1 h2 => given rp (.int _) (h m h1 h2) k⟩⟩
/-- abs, max, min of two; int of an int or a truth -/
def vI1 (f : Int → Int) : RRs := fun xs μ q => ∃ i, xs = [.int i] ∧ q (.val (.int (f i))) μ
def vI2 (f : Int → Int → Int) : RRs := fun xs μ q => ∃ i j, xs = [.int i, .int j] ∧ q (.val (.int (f i j))) μ
theorem rI1_v {f : Int → Int} : Rs K (fun xs H Q => ∃ i, xs = [.int i] ∧ Q (.int (f i)) H) (vI1 f) := ⟨fun Φ G as μ H xs dds q R rp dd ⟨i, e1, h⟩ k => by
  subst e1
  obtain ⟨v, rfl, hd⟩ := dats1 dd
  exact ⟨i, by rw [dat_int hd], given rp (.int _) h k⟩⟩
theorem rI2_v {f : Int → Int → Int} : Rs K (fun xs H Q => ∃ i j, xs = [.int i, .int j] ∧ Q (.int (f i j)) H) (vI2 f) := ⟨fun Φ G as μ H xs dds q R rp dd ⟨i, j, e1, h⟩ k => by
  subst e1
  obtain ⟨v, w, rfl, hd, hd'⟩ := dats2 dd
  exact ⟨i, j, by rw [dat_int hd, dat_int hd'], given rp (.int _) h k⟩⟩
def vInt : RRs := fun xs μ q => (∃ i, xs = [.int i] ∧ q (.val (.int i)) μ) ∨ ∃ b, xs = [.bl b] ∧ q (.val (.int (if b then 1 else 0))) μ
theorem rInt_v : Rs K (fun xs H Q => (∃ i, xs = [.int i] ∧ Q (.int i) H) ∨ ∃ k, xs = [.bl k] ∧ Q (.int (if k then 1 else 0)) H) vInt := ⟨fun Φ G as μ H xs dds q R rp dd h k => by
  rcases h with ⟨i, e1, h⟩ | ⟨b, e1, h⟩
  · subst e1
    obtain ⟨v, rfl, hd⟩ := dats1 dd
    exact .inl ⟨i, by rw [dat_int hd], given rp (.int _) h k⟩
  · subst e1
    obtain ⟨v, rfl, hd⟩ := dats1 dd
    exact .inr ⟨b, by rw [dat_bl hd], given rp (.int _) h k⟩⟩
end
end DL

/-! DLf: lists changed, texts, slices, kinds, errors raised and caught, instances made. -/
namespace DL
open PySem PySem.Spec PyProof.Rows L2

/-! ### a list that is a cell, changed by a method -/
abbrev VM := Mu → List D → List D → (List D → D → Prop) → Prop
structure RM (K : PySem.W.Frag) (r : V → List V → Hp → VK → Prop) (vm : VM) : Prop where
  go : ∀ (Φ G : Hp) (as : List Addr) (μ : Mu) (H : Hp) (a : Addr) (vs : List V) (ds : List D) (xs : List V) (es : List D) (k : List D → D → Prop) (R : VK), Rep K Φ G as μ H → H a = some (.lst vs) → Dats K G as vs ds → Dats K G as xs es → vm μ ds es k →
    (∀ (vs' : List V) (ds' : List D) (v : V) (d : D), Dats K G as vs' ds' → Dat K G as v d → k ds' d → R v (upd H a (.lst vs'))) → r (.ref a) xs H R
def dCM (vm : VM) (to : DTE) (ta : DTA) : DTE := fun ρ μ Q Ex => to ρ μ (fun o μ1 => ∃ i ds0, o = .cell i ∧ μ1[i]? = some (.lst ds0) ∧ ta ρ μ1 (fun xs μ2 => ∃ ds, μ2[i]? = some (.lst ds) ∧ vm μ2 ds xs fun ds' d => Q d (μ2.set i (.lst ds'))) Ex) Ex
theorem cell_at {K : PySem.W.Frag} {Φ G : Hp} {as : List Addr} {μ : Mu} {H : Hp} {i : Nat} {a : Addr} {ds : List D} (rp : Rep K Φ G as μ H) (ha : as[i]? = some a) (h : μ[i]? = some (.lst ds)) : ∃ vs, H a = some (.lst vs) ∧ Dats K G as vs ds := by
  obtain ⟨_, vs, h1, h2⟩ := rp.ok i a _ ha h (by simp)
  exact ⟨vs, h1, h2⟩
section
variable {X : Cx} {W : WX} {e o : Expr} {es : List Expr} {da : DTE} {ta : DTA} {pos p apos cpos : Pos} {name : Str} {id T : String}
theorem de_cm {r : V → List V → Hp → VK → Prop} {vm : VM} (slot : Slot "list" name id) (hty : typeOf (.builtin id) = pure (.type "method_descriptor")) (hm : MtR X id r) (hr : RM X.K r vm) (ho : DE X W o da) (ha : DA X W (e :: es) ta)
    (hbase : attributeBase o name X.env (eval o X.env) = eval o X.env := by rfl)
    (hfew : ((backTo cpos (starEach (e :: es) X.env)).all (fun x => !x.1) && (backToKw cpos (keywordEach [] X.env)).all (fun x => x.1.isSome)
      && decide ((e :: es).length + ([] : List Keyword).length + (if ([] : List Keyword).isEmpty then 0 else 1) < 30)) = true := by rfl)
    (hline : (apos.endLine == cpos.line) = true := by rfl) (hs : starEach (e :: es) X.env = (false, eval e X.env) :: starEach es X.env := by rfl) (hplain : (backTo cpos (starEach es X.env)).any (·.1) = false := by rfl) :
    DE X W (.Call (.Attribute o name apos) (e :: es) [] cpos) (dCM vm da ta) := peI (pe_bm PySem.F.plainAttrs_list slot hty hm ho ha hbase hfew hline hs hplain) fun σ H R ⟨Φ, ρ, G, as, μ, Q, Ex, sr, rp, q, lx, k⟩ =>
  ⟨Φ, ρ, G, as, μ, _, Ex, sr, rp, q, lx, fun G1 as1 μ1 H1 v d g1 rp1 d1 ⟨i, ds0, e1, hi, q1⟩ => by
    subst e1
    cases d1 with
    | @cell a _ hat =>
      obtain ⟨vs0, h0, _⟩ := cell_at rp1 hat hi
      refine ⟨.inl ⟨rfl, _, SqL.of h0⟩, Φ, ρ, G1, as1, μ1, _, Ex, sr.mono g1, rp1, q1, lx.mono g1, fun G2 as2 μ2 H2 xs es2 g2 rp2 d2 ⟨ds, hj, q2⟩ => ?_⟩
      have hat2 := pre_get g2.pre hat
      obtain ⟨vs, h2, hd2⟩ := cell_at rp2 hat2 hj
      exact hr.go Φ G2 as2 μ2 H2 a vs ds xs es2 _ R rp2 h2 hd2 d2 q2 fun vs' ds' v d hvs hv hk => k _ _ _ _ _ _ (g1.trans g2) (rp2.write (o := .lst vs') (m' := .lst ds') hat2 hj (by simp) ⟨vs', rfl, hvs⟩) hv hk⟩
theorem de_cm0 {r : V → List V → Hp → VK → Prop} {vm : VM} (slot : Slot "list" name id) (hty : typeOf (.builtin id) = pure (.type "method_descriptor")) (hm : MtR X id r) (hr : RM X.K r vm) (ho : DE X W o da)
    (hbase : attributeBase o name X.env (eval o X.env) = eval o X.env := by rfl) (hline : (apos.endLine == cpos.line) = true := by rfl) :
    DE X W (.Call (.Attribute o name apos) [] [] cpos) (dCM vm da dNil) := peI (pe_bm0 PySem.F.plainAttrs_list slot hty hm ho hbase hline) fun σ H R ⟨Φ, ρ, G, as, μ, Q, Ex, sr, rp, q, lx, k⟩ =>
  ⟨Φ, ρ, G, as, μ, _, Ex, sr, rp, q, lx, fun G1 as1 μ1 H1 v d g1 rp1 d1 ⟨i, ds0, e1, hi, ds, hj, q2⟩ => by
    subst e1
    cases d1 with
    | @cell a _ hat =>
      obtain ⟨vs, h2, hd2⟩ := cell_at rp1 hat hj
      refine ⟨.inl ⟨rfl, _, SqL.of h2⟩, ?_⟩
      exact hr.go Φ G1 as1 μ1 H1 a vs ds [] [] _ R rp1 h2 hd2 .nil q2 fun vs' ds' v d hvs hv hk => k _ _ _ _ _ _ g1 (rp1.write (o := .lst vs') (m' := .lst ds') hat hj (by simp) ⟨vs', rfl, hvs⟩) hv hk⟩
end
section
variable {K : PySem.W.Frag}
def vAppend : VM := fun _ ds xs k => ∃ d, xs = [d] ∧ ds.length < sizeLine ∧ k (ds ++ [d]) .non
theorem rAppend_v : RM K rAppend vAppend := ⟨fun Φ G as μ H a vs ds xs es k R rp hH hd he ⟨d, e1, hl, h⟩ kk => by
  subst e1
  obtain ⟨v, rfl, hv⟩ := dats1 he
  exact ⟨a, vs, v, rfl, rfl, hH, by rw [hd.length]; exact hl, kk _ _ _ _ (hd.append (.cons hv .nil)) .non h⟩⟩
def vExtend : VM := fun μ ds xs k => ∃ d es, xs = [d] ∧ asX μ d = some es ∧ ds.length + es.length ≤ sizeLine ∧ k (ds ++ es) .non
theorem rExtend_v : RM K rExtend vExtend := ⟨fun Φ G as μ H a vs ds xs es k R rp hH hd he ⟨d, ys, e1, e2, hl, h⟩ kk => by
  subst e1
  obtain ⟨v, rfl, hv⟩ := dats1 he
  obtain ⟨b, ws, rfl, hb, hw⟩ := asX_at rp hv e2
  exact ⟨a, b, vs, ws, rfl, rfl, hH, hb, by rw [hd.length, hw.length]; exact hl, kk _ _ _ _ (hd.append hw) .non h⟩⟩
theorem Dats.take {G : Hp} {as : List Addr} : ∀ {vs : List V} {ds : List D} (n : Nat), Dats K G as vs ds → Dats K G as (vs.take n) (ds.take n)
  | _, _, 0, _ => .nil
  | _, _, _ + 1, .nil => .nil
  | _, _, n + 1, .cons h t => .cons h (Dats.take n t)
theorem Dats.drop {G : Hp} {as : List Addr} : ∀ {vs : List V} {ds : List D} (n : Nat), Dats K G as vs ds → Dats K G as (vs.drop n) (ds.drop n)
  | _, _, 0, h => h
  | _, _, _ + 1, .nil => .nil
  | _, _, n + 1, .cons _ t => Dats.drop n t
theorem Dats.set {G : Hp} {as : List Addr} {v : V} {d : D} (hd : Dat K G as v d) : ∀ {vs : List V} {ds : List D} (n : Nat), Dats K G as vs ds → Dats K G as (vs.set n v) (ds.set n d)
  | _, _, _, .nil => .nil
  | _, _, 0, .cons _ t => .cons hd t
  | _, _, n + 1, .cons h t => .cons h (Dats.set hd n t)
theorem Dats.reverse {G : Hp} {as : List Addr} {vs : List V} {ds : List D} (h : Dats K G as vs ds) : Dats K G as vs.reverse ds.reverse := by
  have key : ∀ {vs : List V} {ds : List D} {ws : List V} {es : List D}, Dats K G as vs ds → Dats K G as ws es → Dats K G as (vs.reverse ++ ws) (ds.reverse ++ es) := by
    intro vs
    induction vs with
    | nil => intro ds ws es h h'; cases h; exact h'
    | cons v vs ih =>
      intro ds ws es h h'
      cases h with
      | cons h t =>
        rw [List.reverse_cons, List.reverse_cons, List.append_assoc, List.append_assoc]
        exact ih t (.cons h h')
  simpa using key h .nil
theorem Dats.dropLast {G : Hp} {as : List Addr} {vs : List V} {ds : List D} (h : Dats K G as vs ds) : Dats K G as vs.dropLast ds.dropLast := by
  rw [List.dropLast_eq_take, List.dropLast_eq_take, h.length]
  exact h.take _
def vInsert : VM := fun _ ds xs k => ∃ i d, xs = [.int i, d] ∧ ds.length < sizeLine ∧ (0 ≤ i ∧ i < 2 ^ 63) ∧ k (ds.take i.toNat ++ [d] ++ ds.drop i.toNat) .non
theorem rInsert_v : RM K (fun x vs H Q => ∃ (l : Addr) (xs : List V) (i : Int) (y : V), x = .ref l ∧ vs = [.int i, y] ∧ H l = some (.lst xs) ∧ xs.length < sizeLine ∧ 0 ≤ i ∧ i < 2 ^ 63 ∧
    Q .non (upd H l (.lst (xs.take i.toNat ++ [y] ++ xs.drop i.toNat)))) vInsert := ⟨fun Φ G as μ H a vs ds xs es k R rp hH hd he ⟨i, d, e1, hl, hi, h⟩ kk => by
  subst e1
  obtain ⟨v, w, rfl, hv, hw⟩ := dats2 he
  exact ⟨a, vs, i, w, rfl, by rw [dat_int hv], hH, by rw [hd.length]; exact hl, hi.1, hi.2, kk _ _ _ _ (((hd.take _).append (.cons hw .nil)).append (hd.drop _)) .non h⟩⟩
def vClear : VM := fun _ _ xs k => xs = [] ∧ k [] .non
theorem rClear_v : RM K rClear vClear := ⟨fun Φ G as μ H a vs ds xs es k R rp hH hd he ⟨e1, h⟩ kk => by
  subst e1
  cases he
  exact ⟨a, vs, rfl, rfl, hH, kk _ _ _ _ .nil .non h⟩⟩
def vPop : VM := fun _ ds xs k => ∃ d, xs = [] ∧ ds[ds.length - 1]? = some d ∧ k ds.dropLast d
theorem rPop_v : RM K rPop vPop := ⟨fun Φ G as μ H a vs ds xs es k R rp hH hd he ⟨d, e1, hl, h⟩ kk => by
  subst e1
  cases he
  obtain ⟨v, hv, hdv⟩ := hd.get hl
  exact ⟨a, vs, v, rfl, rfl, hH, by rw [hd.length]; exact hv, kk _ _ _ _ hd.dropLast hdv h⟩⟩
def vRev : VM := fun _ ds xs k => xs = [] ∧ k ds.reverse .non
theorem rRev_v : RM K rReverse vRev := ⟨fun Φ G as μ H a vs ds xs es k R rp hH hd he ⟨e1, h⟩ kk => by
  subst e1
  cases he
  exact ⟨a, vs, rfl, rfl, hH, kk _ _ _ _ hd.reverse .non h⟩⟩
end
section
variable {X : Cx} {W : WX} {e o i : Expr} {es : List Expr} {da dI : DTE} {ta : DTA} {pos p apos cpos : Pos}
/-- xs[i] = v as a target -/
def hSubL (to ti : DTE) : DTG := fun d ρ μ Q => to ρ μ (fun o μ1 => ti ρ μ1 (fun i μ2 => ∃ c ds k j, o = .cell c ∧ i = .int k ∧ μ2[c]? = some (.lst ds) ∧ ixN ds.length k = some j ∧ Q ρ (μ2.set c (.lst (ds.set j d)))) never) never
theorem dg_subL (ho : DE X W0 o da) (hi : DE X W0 i dI)
    (ha : ∀ v, assign (.Subscript o i pos) X.env v = (do
      let ov ← holding [v] (eval o X.env)
      let iv ← holding [v, ov] (eval i X.env)
      standAt pos
      holding [v, ov, iv] (setItem ov iv v)
      release [v, ov, iv] []) := by intro _; rfl) : DG X (.Subscript o i pos) (hSubL da dI) := pgI (pg_sub ho hi set_list ha) fun v σ H R ⟨Φ, ρ, G, as, μ, d, Q, sr, rp, dd, q, k⟩ =>
  ⟨Φ, ρ, G, as, μ, _, never, sr, rp, q, lx0, fun G1 as1 μ1 H1 ov od g1 rp1 d1 q1 => ⟨Φ, ρ, G1, as1, μ1, _, never, sr.mono g1, rp1, q1, lx0, fun G2 as2 μ2 H2 iv id g2 rp2 d2 ⟨c, ds, kk, j, e1, e2, hc, hj, q2⟩ => by
    subst e1 e2
    cases d1 with
    | @cell a _ hat =>
      have hat2 := pre_get g2.pre hat
      obtain ⟨vs, h2, hd2⟩ := cell_at rp2 hat2 hc
      have gg := g1.trans g2
      refine ⟨a, vs, kk, j, rfl, dat_int d2, h2, by rw [hd2.length]; exact hj, ?_⟩
      exact k _ _ _ _ σ ρ gg (rp2.write (o := .lst (vs.set j v)) (m' := .lst (ds.set j d)) hat2 hc (by simp) ⟨_, rfl, hd2.set (dd.mono gg) j⟩) (sr.mono gg) q2⟩⟩

/-! ### slices -/
abbrev DTO := Rho → Mu → (Option Int → Mu → Prop) → DX → Prop
def upO (K : PySem.W.Frag) (W : WX) (dt : DTO) : TO := fun σ H R => ∃ (Φ : Hp) (ρ : Rho) (G : Hp) (as : List Addr) (μ : Mu) (Q : Option Int → Mu → Prop) (Ex : DX), SRel K G as σ ρ ∧ Rep K Φ G as μ H ∧ dt ρ μ Q Ex ∧ LX K W Φ G as σ Ex ∧
  ∀ (G' : Hp) (as' : List Addr) (μ' : Mu) (H' : Hp) (b : Option Int), Gr G as G' as' → Rep K Φ G' as' μ' H' → Q b μ' → R b H'
abbrev DO (X : Cx) (W : WX) (e : Option Expr) (dt : DTO) : Prop := PO X e (upO X.K W dt)
theorem poI {e : Option Expr} {t t' : TO} (h : PO X e t) (i : ∀ σ H R, t' σ H R → t σ H R) : PO X e t' := ⟨fun pins s σ H Q I q => h.run pins s σ H Q I (i σ H Q q)⟩
def dNoPart : DTO := fun _ μ Q _ => Q none μ
def dPart (t : DTE) : DTO := fun ρ μ Q Ex => t ρ μ (fun d μ1 => ∃ i, d = .int i ∧ Q (some i) μ1) Ex
theorem do_none : DO X W none dNoPart := poI po_none fun σ H R ⟨Φ, ρ, G, as, μ, Q, Ex, sr, rp, q, lx, k⟩ => k G as μ H none (Gr.refl _ _) rp q
theorem do_some (h : DE X W e da) : DO X W (some e) (dPart da) := poI (po_some h) fun σ H R ⟨Φ, ρ, G, as, μ, Q, Ex, sr, rp, q, lx, k⟩ =>
  ⟨Φ, ρ, G, as, μ, _, Ex, sr, rp, q, lx, fun G1 as1 μ1 H1 v d g1 rp1 d1 ⟨i, e1, q1⟩ => by
    subst e1
    exact ⟨i, dat_int d1, k G1 as1 μ1 H1 (some i) g1 rp1 q1⟩⟩
abbrev RRSl := D → Option Int → Option Int → Mu → QR → Prop
structure RSl (K : PySem.W.Frag) (r : V → Option Int → Option Int → Hp → VK → Prop) (dr : RRSl) : Prop where
  go : ∀ (Φ G : Hp) (as : List Addr) (μ : Mu) (H : Hp) (x : V) (dx : D) (lo hi : Option Int) (q : QR) (R : VK), Rep K Φ G as μ H → Dat K G as x dx → dr dx lo hi μ q → KQ K Φ G as q R → r x lo hi H R
def dSl (qf : DQ → QR) (dr : RRSl) (te : DTE) (tl th : DTO) : DTE := fun ρ μ Q Ex => te ρ μ (fun x μ1 => tl ρ μ1 (fun l μ2 => th ρ μ2 (fun u μ3 => dr x l u μ3 (qf Q)) Ex) Ex) Ex
theorem de_slice {r : V → Option Int → Option Int → Hp → VK → Prop} {dr : RRSl} {qf : DQ → QR} {lo hi : Option Expr} {tl th : DTO} {p2 : Pos} (hr : SlR X r) (hd : RSl X.K r dr) (t2 : Takes2 qf) (he : DE X W e da) (hl : DO X W lo tl) (hh : DO X W hi th) : DE X W (.Subscript e (.Slice lo hi none p2) pos) (dSl qf dr da tl th) :=
  peI (pe_slice hr he hl hh) fun σ H R ⟨Φ, ρ, G, as, μ, Q, Ex, sr, rp, q, lx, k⟩ =>
  ⟨Φ, ρ, G, as, μ, _, Ex, sr, rp, q, lx, fun G1 as1 μ1 H1 v d g1 rp1 d1 q1 => ⟨Φ, ρ, G1, as1, μ1, _, Ex, sr.mono g1, rp1, q1, lx.mono g1, fun G2 as2 μ2 H2 l g2 rp2 q2 => ⟨Φ, ρ, G2, as2, μ2, _, Ex, (sr.mono g1).mono g2, rp2, q2, lx.mono (g1.trans g2), fun G3 as3 μ3 H3 u g3 rp3 q3 =>
    hd.go Φ G3 as3 μ3 H3 v d l u _ R rp3 (d1.mono (g2.trans g3)) q3 (kq_of t2 fun G4 as4 μ4 H4 w dw g4 => k G4 as4 μ4 H4 w dw (((g1.trans g2).trans g3).trans g4))⟩⟩⟩
end
def cutG {α : Type} (xs : List α) (lo hi : Option Int) : List α := (xs.drop (HT.sIx xs.length 0 lo)).take (HT.sIx xs.length xs.length hi - HT.sIx xs.length 0 lo)
theorem cut_dats {K : PySem.W.Frag} {G : Hp} {as : List Addr} {vs : List V} {ds : List D} (lo hi : Option Int) (h : Dats K G as vs ds) : Dats K G as (cutV vs lo hi) (cutG ds lo hi) := by
  unfold cutV cutG
  rw [h.length]
  exact (h.drop _).take _
section
variable {K : PySem.W.Frag}
def vSlL : RRSl := fun x lo hi μ q => ∃ ds, asL μ x = some ds ∧ q (.fresh (.lst (cutG ds lo hi))) μ
theorem rSlL_v : RSl K (rSlL K) vSlL := ⟨fun Φ G as μ H x dx lo hi q R rp d1 ⟨ds, e1, h⟩ k => by
  obtain ⟨a, vs, rfl, hL, hs⟩ := asL_at rp d1 e1
  exact ⟨a, vs, rfl, hL, fun p hp => floor (m := .lst (cutG ds lo hi)) rp hp ⟨_, rfl, cut_dats lo hi hs⟩ h k⟩⟩
def vSlS : RRSl := fun x lo hi μ q => ∃ z, x = .str z ∧ z.length ≤ sizeLine ∧ q (.val (.str (cutS z lo hi))) μ
theorem rSlS_v : RSl K rSlS vSlS := ⟨fun Φ G as μ H x dx lo hi q R rp d1 ⟨z, e1, hz, h⟩ k => by
  subst e1
  exact ⟨z, dat_str d1, hz, given rp (.str _) h k⟩⟩

/-! ### texts -/
def strsD : List D → Option (List Str)
  | [] => some []
  | .str b :: ds => (strsD ds).map (b :: ·)
  | _ :: _ => none
theorem strs_dat {G : Hp} {as : List Addr} : ∀ {vs : List V} {ds : List D} {bs : List Str}, Dats K G as vs ds → strsD ds = some bs → vs = bs.map V.str
  | _, _, _, .nil, e => by cases e; rfl
  | _, .str b :: ds, bs, .cons h t, e => by
    unfold strsD at e
    cases e2 : strsD ds with
    | none => rw [e2] at e; cases e
    | some cs =>
      rw [e2] at e
      cases e
      rw [dat_str h, strs_dat t e2] <;> rfl
theorem strsD_map (bs : List Str) : strsD (bs.map D.str) = some bs := by
  induction bs with
  | nil => rfl
  | cons b bs ih => simp [strsD, ih]
theorem strs_dats {G : Hp} {as : List Addr} : ∀ ss : List Str, Dats K G as (ss.map V.str) (ss.map D.str)
  | [] => .nil
  | s :: ss => .cons (.str s) (strs_dats ss)
/-- s.m(e) by values: s a text -/
abbrev RRm := D → List D → Mu → QR → Prop
structure Rm (K : PySem.W.Frag) (r : V → List V → Hp → VK → Prop) (dr : RRm) : Prop where
  go : ∀ (Φ G : Hp) (as : List Addr) (μ : Mu) (H : Hp) (x : V) (dx : D) (xs : List V) (ds : List D) (q : QR) (R : VK), Rep K Φ G as μ H → Dat K G as x dx → Dats K G as xs ds → dr dx ds μ q → KQ K Φ G as q R → r x xs H R
def vSplit : RRm := fun x xs μ q => ∃ a b, x = .str a ∧ xs = [.str b] ∧ (b.length == 0) = false ∧ a.length + 2 ≤ sizeLine ∧ q (.fresh (.lst ((Txt.split a b).map D.str))) μ
theorem rSplit_v : Rm K (fun x xs H Q => ∃ a b, x = .str a ∧ xs = [.str b] ∧ (b.length == 0) = false ∧ a.length + 2 ≤ sizeLine ∧ rNewStrs (Txt.split a b) H Q) vSplit := ⟨fun Φ G as μ H x dx xs ds q R rp d1 d2 ⟨a, b, e1, e2, h1, h2, h⟩ k => by
  subst e1 e2
  obtain ⟨v, rfl, hv⟩ := dats1 d2
  exact ⟨a, b, dat_str d1, by rw [dat_str hv], h1, h2, fun p hp => floor (m := .lst ((Txt.split a b).map D.str)) rp hp ⟨_, rfl, strs_dats _⟩ h k⟩⟩
def vJoin : RRm := fun x xs μ q => ∃ a d ds ys, x = .str a ∧ xs = [d] ∧ asS μ d = some ds ∧ strsD ds = some ys ∧ (ys.map (·.length)).sum + ys.length * a.length ≤ 16777216 ∧ q (.val (.str (Txt.join a ys))) μ
theorem rJoin_v : Rm K (fun x xs H Q => ∃ a p, ∃ ys : List Str, x = .str a ∧ xs = [.ref p] ∧ (SqL K H p (ys.map V.str) ∨ SqT K H p (ys.map V.str)) ∧
    (ys.map (·.length)).sum + ys.length * a.length ≤ 16777216 ∧ Q (.str (Txt.join a ys)) H) vJoin := ⟨fun Φ G as μ H x dx xs ds q R rp d1 d2 ⟨a, d, es, ys, e1, e2, e3, e4, h1, h⟩ k => by
  subst e1 e2
  obtain ⟨v, rfl, hv⟩ := dats1 d2
  obtain ⟨p, vs, rfl, hS, hs⟩ := asS_at rp hv e3
  have := strs_dat hs e4
  subst this
  exact ⟨a, p, ys, dat_str d1, rfl, hS, h1, given rp (.str _) h k⟩⟩
end
section
variable {X : Cx} {W : WX} {e o i : Expr} {es : List Expr} {da db : DTE} {ta : DTA} {pos p apos cpos : Pos} {name : Str} {id : String} {qf : DQ → QR}
def dM1 (qf : DQ → QR) (dr : RRm) (to te : DTE) : DTE := fun ρ μ Q Ex => to ρ μ (fun o μ1 => (∃ a, o = .str a) ∧ te ρ μ1 (fun y μ2 => dr o [y] μ2 (qf Q)) Ex) Ex
theorem de_m1 {r : V → List V → Hp → VK → Prop} {dr : RRm} (slot : Slot "str" name id) (ty : typeOf (.builtin id) = pure (.type "method_descriptor")) (rule : MtR X id r) (hd : Rm X.K r dr) (t2 : Takes2 qf) (ho : DE X W o da) (he : DE X W e db)
    (hs : starEach [e] X.env = [(false, eval e X.env)] := by rfl) (hbase : attributeBase o name X.env (eval o X.env) = eval o X.env := by rfl) (hline : (apos.endLine == pos.line) = true := by rfl) :
    DE X W (.Call (.Attribute o name apos) [e] [] pos) (dM1 qf dr da db) := peI (pe_m1 slot ty rule ho he hs hbase hline) fun σ H R ⟨Φ, ρ, G, as, μ, Q, Ex, sr, rp, q, lx, k⟩ =>
  ⟨Φ, ρ, G, as, μ, _, Ex, sr, rp, q, lx, fun G1 as1 μ1 H1 v d g1 rp1 d1 ⟨⟨a, e1⟩, q1⟩ => by
    subst e1
    exact ⟨⟨a, dat_str d1⟩, Φ, ρ, G1, as1, μ1, _, Ex, sr.mono g1, rp1, q1, lx.mono g1, fun G2 as2 μ2 H2 w dw g2 rp2 d2 q2 =>
      hd.go Φ G2 as2 μ2 H2 v _ [w] [dw] _ R rp2 (d1.mono g2) (.cons d2 .nil) q2 (kq_of t2 fun G4 as4 μ4 H4 u du g4 => k G4 as4 μ4 H4 u du ((g1.trans g2).trans g4))⟩⟩
end

/-! ### kinds -/
/-- an own class whose instances may be asked for their kind -/
structure InsC (K : PySem.W.Frag) (C : Addr) : Prop where
  cl : Cls K C
  ha : PySem.W.findIn K (.ref C) "__class__" = some (some (.builtin "object.__class__"))
  hn : PySem.W.specialIn K (.builtin "object.__class__") "__get__" = some (some (.builtin "getset_descriptor.__get__"))
  ht : PySem.W.takesIn K (.builtin "object.__class__") = some true
  hm : PySem.W.mroIn K C (.type "object") = some true
/-- the type of a tree (of plain data) -/
def tyD (μ : Mu) : D → Option String
  | .non => some "NoneType"
  | .bl _ => some "bool"
  | .int _ => some "int"
  | .str _ => some "str"
  | .lst _ => some "list"
  | .tup _ => some "tuple"
  | .dic _ => some "dict"
  | .cell i => match μ[i]? with
    | some (.lst _) => some "list"
    | some (.dic _) => some "dict"
    | some (.dit _) => some "dict"
    | _ => none
  | _ => none
section
variable {K : PySem.W.Frag}
theorem sqT_ty {H : Hp} {a : Addr} {xs : List V} (h : SqT K H a xs) : TyX K H (.ref a) (.type "tuple") := by
  rcases h with (h | ⟨o, h⟩) | ⟨o, its, n, h, hc, _⟩
  · exact .base (.tup h)
  · exact .fTuple h
  · exact .kTuple h hc
theorem tyD_at {Φ G : Hp} {as : List Addr} {μ : Mu} {H : Hp} {v : V} {d : D} {t : String} (rp : Rep K Φ G as μ H) (hd : Dat K G as v d) (h : tyD μ d = some t) : TyX K H v (.type t) := by
  cases hd with
  | non => cases h; exact .base .non
  | bl b => cases h; exact .base (.bl b)
  | int b => cases h; exact .base (.int b)
  | str b => cases h; exact .base (.str b)
  | lst hL _ => cases h; exact .base (.lst (rp.same _ _ hL))
  | tup hL _ => cases h; exact sqT_ty (Same.sqT rp.same hL)
  | dic hL _ =>
    cases h
    rcases Same.rd rp.same hL with h | ⟨o, h⟩
    · exact .base (.dK h)
    · exact .fDict h
  | @cell a i ha =>
    cases e : μ[i]? with
    | none => simp [tyD, e] at h
    | some m =>
      simp only [tyD, e] at h
      cases m with
      | lst xs => cases h; obtain ⟨_, vs, h1, _⟩ := rp.ok i a _ ha e (by simp); exact .base (.lst h1)
      | dic xs => cases h; obtain ⟨_, vs, h1, _⟩ := rp.ok i a _ ha e (by simp); exact .base (.dK h1)
      | dit xs => cases h; obtain ⟨_, vs, h1, _⟩ := rp.ok i a _ ha e (by simp); exact .base (.dT h1)
      | gone => cases h
      | ins _ _ => cases h
  | lsk _ _ => cases h
  | ty _ => cases h
  | ref _ => cases h
  | obj _ _ => cases h
/-- isinstance(x, T), T a built-in class; T an own class at C, x plain -/
def vIsi : RRs := fun xs μ q => ∃ d s t b, xs = [d, .ty t] ∧ tyD μ d = some s ∧ kitB s t = some b ∧ q (.val (.bl b)) μ
theorem rIsi_v : Rs K (rIsi K) vIsi := ⟨fun Φ G as μ H xs ds q R rp dd ⟨d, s, t, b, e1, e2, e3, h⟩ k => by
  subst e1
  obtain ⟨v, w, rfl, hv, hw⟩ := dats2 dd
  have := dat_ty hw
  subst this
  exact ⟨v, .ty t, .type s, .type t, b, rfl, .ty t, tyD_at rp hv e2, kit_ty e3, given rp (.bl b) h k⟩⟩
end

/-! ### errors -/
/-- an exception class of the text, over ValueError at the end -/
structure ExK (K : PySem.W.Frag) (mg : Str → Option Value) (x : Str) (C : Addr) : Prop where
  g : mg x = some (.ref C)
  x : PySem.W.excIn K C [.type "ValueError", .type "Exception", .type "BaseException", .type "object"] "ValueError.__new__" = true
  k : PySem.W.keepIn K (.ref C) = true
  b : PySem.W.subIn K (.ref C) (.type "BaseException") = some true
  t : PySem.W.typeIn K (.ref C) = some (.type "type")
def dRaise (C : Addr) : DTS := fun E ρ μ => E.ex ⟨.ref C, none⟩ ρ μ
section
variable {X : Cx} {W : WX} {pos p p2 np pos' : Pos} {x m n : Str} {C : Addr} {c : Value} {i : Nat} {body suite : List Stmt} {b₀ : Stmt} {tb : DTS} {ts : Exn → Addr → DTS}
theorem ds_raise {j : Nat} {pos2 : Pos} (hc : X.calm = true) (tk : Takes X W) (T : ExK X.K X.mg x C) (hg : Gl X x := by rfl) (hdb : (x == ("__debug__" : Str)) = false := by decide) : DS X W (.Raise (some (.Call (.Name x p) [.Constant (.str m) j p2] [] pos)) none pos2) (dRaise C) :=
  psI (ps_raise hc tk (pmk_own PySem.F.excBase_ValueError T.x T.g T.k (raises_own T.b T.t) hg hdb)) fun E σ H ⟨Φ, ρ, G0, as0, G, as, μ, DE, g0, sr, rp, q, le⟩ => le.ex G as μ H σ ρ ⟨.ref C, none⟩ (.ref C) none g0 rp sr ⟨rfl, rfl⟩ q
/-- try: body / except x as n: suite; behind the suite the name is forgotten -/
def dTryAs (K : PySem.W.Frag) (c : Value) (i : Nat) (tb : DTS) (ts : Exn → Addr → DTS) : DTS := fun E ρ μ => tb { E with ex := fun x ρ' μ' => ∃ b, PySem.W.exmOne K x.cls c = some b ∧
  (b = true → ∀ a, ts x a { E with nx := fun ρ2 μ2 => E.nx (ρ2.set i none) μ2, bk := fun ρ2 μ2 => E.bk (ρ2.set i none) μ2, ct := fun ρ2 μ2 => E.ct (ρ2.set i none) μ2, ex := fun _ _ _ => False } (ρ'.set i (some (.ref a))) μ') ∧ (b = false → E.ex x ρ' μ') } ρ μ
/-- try: body / except x: suite -/
def dTryOnly (K : PySem.W.Frag) (c : Value) (tb : DTS) (ts : Exn → Addr → DTS) : DTS := fun E ρ μ => tb { E with ex := fun x ρ' μ' => ∃ b, PySem.W.exmOne K x.cls c = some b ∧
  (b = true → ∀ a, ts x a { E with ex := fun _ _ _ => False } ρ' μ') ∧ (b = false → E.ex x ρ' μ') } ρ μ
/-- how the error that a suite holds is known -/
structure Held (K : PySem.W.Frag) (y : Exn) (cls : Value) (d : Option Addr) : Prop where
  c : cls = y.cls
  d : y.flds = none → d = none
theorem ds_try_as (hs : X.stack = X.env :: X.outer) (hf : X.env.frame = some X.env.locals) (hN : X.N.Nodup) (hi : X.N[i]? = some n) (hln : X.env.kindOf n = some .local) (hc : Names X x c) (tk : Takes X W)
    (hb : ∀ (W' : WX) (pn : List (Addr × Obj)) (xe : Value → Shared → Prop), Takes (X.tr pn xe) W' → PassesOwn (model X.prog X.w) X.A X.env xe → DSs (X.tr pn xe) W' body tb)
    (hsu : ∀ (a : Addr) (oe : Obj) (cls : Value) (d : Option Addr) (pn : List (Addr × Obj)) (y : Exn), Zc cls d oe → (∃ vs, oe.data = .fields vs) → Held X.K y cls d → DSs (X.suite a ((a, oe) :: pn)) W0 (b₀ :: suite) (ts y a)) :
    DS X W (.Try body [.ExceptHandler (some (.Name x np)) (some n) (b₀ :: suite) pos'] [] [] pos) (dTryAs X.K c i tb ts) := by
  refine psI (ps_try_as (tb := fun W' => upS X.K W' tb) (ts := fun a cls d E σ H => ∃ y, Held X.K y cls d ∧ upS X.K W0 (ts y a) E σ H) hs hf hN hi hln hc tk hb fun a oe cls d pn hz hfl => ?_) fun E σ H ⟨Φ, ρ, G0, as0, G, as, μ, DE, g0, sr, rp, q, le⟩ => ?_
  · exact ⟨fun pins s σ H E I ⟨y, hh, h⟩ => (hsu a oe cls d pn y hz hfl hh).run pins s σ H E I h⟩
  · refine ⟨Φ, ρ, G0, as0, G, as, μ, _, g0, sr, rp, q, ⟨le.lo, le.nx, le.rt, ?_, le.bk, le.ct⟩⟩
    rintro G' as' μ' H' σ' ρ' y cls dx g r sr' er ⟨b, hb1, h1, h2⟩
    have ec : cls = y.cls := er.1
    subst ec
    refine ⟨b, hb1, fun e a ha => ⟨y, ⟨rfl, fun hn => ?_⟩, ?_⟩, fun e => le.ex G' as' μ' H' σ' ρ' y _ dx g r sr' er (h2 e)⟩
    · have := er.2
      rw [hn] at this
      exact this
    · exact ⟨Φ, _, G0, as0, G', as', μ', _, g, sr'.set i (.ref a), r, h1 e a, ⟨le.lo, fun G4 as4 μ4 H4 σ4 ρ4 g4 rp4 sr4 q4 => le.nx _ _ _ _ _ _ g4 rp4 (sr4.setN i) q4, le.rt, fun _ _ _ _ _ _ _ _ _ _ _ _ _ z => z.elim,
        fun G4 as4 μ4 H4 σ4 ρ4 g4 rp4 sr4 q4 => le.bk _ _ _ _ _ _ g4 rp4 (sr4.setN i) q4, fun G4 as4 μ4 H4 σ4 ρ4 g4 rp4 sr4 q4 => le.ct _ _ _ _ _ _ g4 rp4 (sr4.setN i) q4⟩⟩
theorem ds_try_only (hs : X.stack = X.env :: X.outer) (hf : X.env.frame = some X.env.locals) (hc : Names X x c) (tk : Takes X W)
    (hb : ∀ (W' : WX) (pn : List (Addr × Obj)) (xe : Value → Shared → Prop), Takes (X.tr pn xe) W' → PassesOwn (model X.prog X.w) X.A X.env xe → DSs (X.tr pn xe) W' body tb)
    (hsu : ∀ (a : Addr) (oe : Obj) (cls : Value) (d : Option Addr) (pn : List (Addr × Obj)) (y : Exn), Zc cls d oe → (∃ vs, oe.data = .fields vs) → Held X.K y cls d → DSs (X.suite a ((a, oe) :: pn)) W0 (b₀ :: suite) (ts y a)) :
    DS X W (.Try body [.ExceptHandler (some (.Name x np)) none (b₀ :: suite) pos'] [] [] pos) (dTryOnly X.K c tb ts) := by
  refine psI (ps_try_only (tb := fun W' => upS X.K W' tb) (ts := fun a cls d E σ H => ∃ y, Held X.K y cls d ∧ upS X.K W0 (ts y a) E σ H) hs hf hc tk hb fun a oe cls d pn hz hfl => ?_) fun E σ H ⟨Φ, ρ, G0, as0, G, as, μ, DE, g0, sr, rp, q, le⟩ => ?_
  · exact ⟨fun pins s σ H E I ⟨y, hh, h⟩ => (hsu a oe cls d pn y hz hfl hh).run pins s σ H E I h⟩
  · refine ⟨Φ, ρ, G0, as0, G, as, μ, _, g0, sr, rp, q, ⟨le.lo, le.nx, le.rt, ?_, le.bk, le.ct⟩⟩
    rintro G' as' μ' H' σ' ρ' y cls dx g r sr' er ⟨b, hb1, h1, h2⟩
    have ec : cls = y.cls := er.1
    subst ec
    refine ⟨b, hb1, fun e a ha => ⟨y, ⟨rfl, fun hn => ?_⟩, ?_⟩, fun e => le.ex G' as' μ' H' σ' ρ' y _ dx g r sr' er (h2 e)⟩
    · have := er.2
      rw [hn] at this
      exact this
    · exact ⟨Φ, _, G0, as0, G', as', μ', _, g, sr', r, h1 e a, ⟨le.lo, le.nx, le.rt, fun _ _ _ _ _ _ _ _ _ _ _ _ _ z => z.elim, le.bk, le.ct⟩⟩
end
/-- isinstance(e, c), e the error that the suite holds; c a class, or a tuple of classes -/
def clsD : D → Option Value
  | .ty n => some (.type n)
  | .ref a => some (.ref a)
  | _ => none
def vIsE (K : PySem.W.Frag) (y : Exn) (a : Addr) : RRs := fun xs μ q => ∃ (C : Addr) (c : D) (cv : Value) (b : Bool), y = ⟨.ref C, none⟩ ∧ L2.ExcC K C ∧ xs = [.ref a, c] ∧ clsD c = some cv ∧ PySem.W.kitOne K (.ref C) cv = some b ∧ q (.val (.bl b)) μ
def rIsE' (K : PySem.W.Frag) (cls : Value) (d : Option Addr) (a : Addr) : List V → Hp → VK → Prop := fun xs H Q => ∃ C, cls = .ref C ∧ d = none ∧ L2.ExcC K C ∧ rIsE K C a xs H Q
theorem call_isE' {X : Cx} {a : Addr} {oe : Obj} {cls : Value} {d : Option Addr} {pn : List (Addr × Obj)} (hz : Zc cls d oe) (hf : ∃ vs, oe.data = .fields vs) : CallR (X.suite a ((a, oe) :: pn)) (.builtin "isinstance") (rIsE' X.K cls d a) := by
  intro pins s σ H xs us Q I r ⟨C, e1, e2, hC, h⟩
  subst e1 e2
  exact call_isE hC hz hf pins s σ H xs us Q I r h
theorem clsD_rel {K : PySem.W.Frag} {G : Hp} {as : List Addr} {v : V} {c : D} {cv : Value} (h : Dat K G as v c) (e : clsD c = some cv) : ∀ u, RelV v u → u = cv := by
  cases h with
  | ty n => cases e; exact fun u r => r
  | ref a => cases e; exact fun u r => r
  | _ => cases e
theorem rIsE_v {K : PySem.W.Frag} {y : Exn} {cls : Value} {d : Option Addr} {a : Addr} (hh : Held K y cls d) : Rs K (rIsE' K cls d a) (vIsE K y a) := ⟨fun Φ G as μ H xs ds q R rp dd ⟨C, c, cv, b, e1, hC, e2, e3, e4, h⟩ k => by
  subst e1 e2
  obtain ⟨v, w, rfl, hv, hw⟩ := dats2 dd
  exact ⟨C, hh.c, hh.d rfl, hC, w, cv, b, by rw [dat_ref hv], clsD_rel hw e3, e4, given rp (.bl b) h k⟩⟩
/-- .. a tuple of classes -/
def clsDs : List D → Option (List Value)
  | [] => some []
  | d :: ds => match clsD d, clsDs ds with
    | some v, some vs => some (v :: vs)
    | _, _ => none
def rIsET (K : PySem.W.Frag) (cls : Value) (d : Option Addr) (a : Addr) : List V → Hp → VK → Prop := fun xs H Q => ∃ (C tp : Addr) (cs : List V) (us : List Value) (b : Bool), cls = .ref C ∧ d = none ∧ L2.ExcC K C ∧ xs = [.ref a, .ref tp] ∧ SqT K H tp cs ∧ (∀ ws, Vals cs ws → ws = us) ∧ PySem.W.kitAny K (.ref C) us = some b ∧ Q (.bl b) H
theorem call_isET {X : Cx} {a : Addr} {oe : Obj} {cls : Value} {d : Option Addr} {pn : List (Addr × Obj)} (hz : Zc cls d oe) (hf : ∃ vs, oe.data = .fields vs) : CallR (X.suite a ((a, oe) :: pn)) (.builtin "isinstance") (rIsET X.K cls d a) := by
  intro pins s σ H xs us Q I r ⟨C, tp, cs, cvs, b, e1, e2, hC, e3, hT, hcs, hk, q⟩
  subst e1 e2 e3
  obtain ⟨u1, u2, rfl, r1, r2⟩ := vals2 r
  cases (show u1 = Value.ref a from r1)
  cases (show u2 = Value.ref tp from r2)
  obtain ⟨hget, _⟩ := I.pin (a, oe) (List.mem_append_left _ List.mem_cons_self)
  obtain ⟨vs, hv⟩ := hf
  have J : PySem.W.InstAt s.heap a oe C none := by
    obtain ⟨oc, od, oda, osl⟩ := oe
    obtain ⟨h1, h2⟩ := hz
    dsimp only at h1 h2 hv
    subst h1 h2 hv
    exact ⟨hget, rfl, rfl, trivial⟩
  obtain ⟨its, rv, ⟨o, h1, h2, n, h3⟩, _⟩ := I.tuple hT
  have e3 := hcs _ rv
  subst e3
  obtain ⟨oc, od, dt, sl⟩ := o
  simp only at h2 h3
  subst h2 h3
  exact PySem.W.kia_tup (PySem.W.handS_kitx_exc hC.hg hC.hk hC.hs hC.hd hC.ha hC.hn hC.ht hC.hm) I.kIn J h1 hk (fun z => nomatch z) fun tk => ⟨.bl b, H, I.kept (t' := tk) fun _ _ z => z, rfl, q⟩
def vIsET (K : PySem.W.Frag) (y : Exn) (a : Addr) : RRs := fun xs μ q => ∃ (C : Addr) (cs : List D) (us : List Value) (b : Bool), y = ⟨.ref C, none⟩ ∧ L2.ExcC K C ∧ xs = [.ref a, .tup cs] ∧ clsDs cs = some us ∧ PySem.W.kitAny K (.ref C) us = some b ∧ q (.val (.bl b)) μ
theorem clsDs_rel {K : PySem.W.Frag} {G : Hp} {as : List Addr} : ∀ {vs : List V} {cs : List D} {us : List Value}, Dats K G as vs cs → clsDs cs = some us → ∀ ws, Vals vs ws → ws = us
  | _, _, _, .nil, e, _, r => by cases e; cases r; rfl
  | _, d :: ds, us, .cons h t, e, ws, r => by
    unfold clsDs at e
    cases e1 : clsD d with
    | none => rw [e1] at e; cases e
    | some v =>
      cases e2 : clsDs ds with
      | none => rw [e1, e2] at e; cases e
      | some vs =>
        rw [e1, e2] at e
        cases e
        cases r with
        | cons r1 r2 => rw [clsD_rel h e1 _ r1, clsDs_rel t e2 _ r2]
theorem rIsET_v {K : PySem.W.Frag} {y : Exn} {cls : Value} {d : Option Addr} {a : Addr} (hh : Held K y cls d) : Rs K (rIsET K cls d a) (vIsET K y a) := ⟨fun Φ G as μ H xs ds q R rp dd ⟨C, cs, us, b, e1, hC, e2, e3, e4, h⟩ k => by
  subst e1 e2
  obtain ⟨v, w, rfl, hv, hw⟩ := dats2 dd
  obtain ⟨tp, vs, rfl, hT, hs⟩ := tup_at rp hw
  exact ⟨C, tp, vs, us, b, hh.c, hh.d rfl, hC, by rw [dat_ref hv], hT, clsDs_rel hs e3, e4, given rp (.bl b) h k⟩⟩
/-- a name of an except clause -/
theorem names_own {X : Cx} {x : Str} {C : Addr} (h : X.mg x = some (.ref C)) (hg : Gl X x := by rfl) (hd : (x == ("__debug__" : Str)) = false := by decide) : Names X x (.ref C) := ⟨hg, hd, .inl h⟩
end DL

/-! DLg: one rule an operator, told by the trees' forms. -/
namespace DL
open PySem PySem.Spec PyProof.Rows L2
section
variable {K : PySem.W.Frag}
/-- + -/
def vAdd : RR2 := fun x y μ q => match x, y with
  | .int i, .int j => q (.val (.int (i + j))) μ
  | .str i, .str j => i.length + j.length ≤ sizeLine ∧ q (.val (.str (i ++ j))) μ
  | x, y => ∃ xs ys, asX μ x = some xs ∧ asX μ y = some ys ∧ xs.length + ys.length ≤ sizeLine ∧ q (.fresh (.lst (xs ++ ys))) μ
abbrev rAddU : R2 := fun x y H Q => (rI0 fun i j => .int (i + j)) x y H Q ∨ (∃ i j, x = .str i ∧ y = .str j ∧ i.length + j.length ≤ sizeLine ∧ Q (.str (i ++ j)) H) ∨ rCat x y H Q
theorem op_addU {X : Cx} : OpR X (binaryOp .Add) rAddU := op_add.or (op_add_str.or op_cat)
theorem rAdd_v : R2' K rAddU vAdd := ⟨fun Φ G as μ H x y dx dy q R rp d1 d2 h k => by
  unfold vAdd at h
  split at h
  · exact .inl ⟨_, _, dat_int d1, dat_int d2, given rp (.int _) h k⟩
  · exact .inr (.inl ⟨_, _, dat_str d1, dat_str d2, h.1, given rp (.str _) h.2 k⟩)
  · exact .inr (.inr (rCat_v.go Φ G as μ H x y _ _ q R rp d1 d2 h k))⟩
/-- x[i] -/
def vIx : RR2 := fun x y μ q => match x with
  | .str z => ∃ i c, y = .int i ∧ z.length ≤ sizeLine ∧ atI z.cps.toList i = some c ∧ q (.val (.str ⟨#[c]⟩)) μ
  | .tup ds => ∃ i d, y = .int i ∧ atI ds i = some d ∧ q (.val d) μ
  | x => ∃ ds i d, asL μ x = some ds ∧ y = .int i ∧ atI ds i = some d ∧ q (.val d) μ
theorem rIx_v : R2' K (rIx K) vIx := ⟨fun Φ G as μ H x y dx dy q R rp d1 d2 h k => by
  unfold vIx at h
  split at h
  · obtain ⟨i, c, e, hz, hc, h⟩ := h
    exact .inr (.inr (rIxS_v.go Φ G as μ H x y _ _ q R rp d1 d2 ⟨_, i, c, rfl, e, hz, hc, h⟩ k))
  · obtain ⟨i, d, e, hc, h⟩ := h
    exact .inr (.inl (rIxT_v.go Φ G as μ H x y _ _ q R rp d1 d2 ⟨_, i, d, rfl, e, hc, h⟩ k))
  · exact .inl (rIxL_v.go Φ G as μ H x y _ _ q R rp d1 d2 h k)⟩
/-- x in y, not of dicts -/
def vInU (neg : Bool) : RR2 := fun x y μ q => match y with
  | .str z => ∃ c, x = .str ⟨#[c]⟩ ∧ q (.val (.bl (if neg then !decide (c ∈ z.cps.toList) else decide (c ∈ z.cps.toList)))) μ
  | y => (∃ ds u us, asS μ y = some ds ∧ flatD x = some u ∧ flatDs ds = some us ∧ q (.val (.bl (if neg then !inV u us else inV u us))) μ) ∨
      ∃ ds, asL μ y = some ds ∧ D.ok 64 (seen μ x) = true ∧ D.okL 63 ds = true ∧ q (.val (.bl (if neg then !(ds.any fun z => deq z (seen μ x)) else ds.any fun z => deq z (seen μ x)))) μ
abbrev rInU (K : PySem.W.Frag) : R2 := fun x y H Q => (∃ (c : Nat) (z : Str), x = .str ⟨#[c]⟩ ∧ y = .str z ∧ Q (.bl (decide (c ∈ z.cps.toList))) H) ∨ rIn K false x y H Q ∨ rInD K x y H Q
abbrev rNotInU (K : PySem.W.Frag) : R2 := fun x y H Q => (∃ (c : Nat) (z : Str), x = .str ⟨#[c]⟩ ∧ y = .str z ∧ Q (.bl (!decide (c ∈ z.cps.toList))) H) ∨ rIn K true x y H Q ∨ rNotInD K x y H Q
theorem op_inU {X : Cx} (hu : X.A.units + 65 < cLine) : OpR X (compareOp .In) (rInU X.K) := op_in_sign.or (op_in_seq.or (op_inD hu))
theorem op_notInU {X : Cx} (hu : X.A.units + 65 < cLine) : OpR X (compareOp .NotIn) (rNotInU X.K) := op_notIn_sign.or (op_notIn_seq.or (op_notInD hu))
theorem pdL_any (x : D) : ∀ ds : List D, ((D.pdL ds).any fun z => PyData.eqv z (D.pd x)) = ds.any fun z => deq z x
  | [] => rfl
  | d :: ds => by
    show (PyData.eqv (D.pd d) (D.pd x) || (D.pdL ds).any _) = (deq d x || _)
    rw [pdL_any x ds]; rfl
theorem list_dp {Φ G : Hp} {as : List Addr} {μ : Mu} {H : Hp} {v : V} {d : D} {ds : List D} (rp : Rep K Φ G as μ H) (hd : Dat K G as v d) (e : asL μ d = some ds) (h : D.okL 63 ds = true) : Dp K H v (.list (D.pdL ds)) ∧ SeqAt.shaped (.list (D.pdL ds)) = true := by
  obtain ⟨a, vs, rfl, hL, hs⟩ := asL_at rp hd e
  exact ⟨.lst hL (dats_dp rp.same h hs), ok_shaped (d := .lst ds) (by simpa [D.ok] using h)⟩
theorem inU_aux {Φ G : Hp} {as : List Addr} {μ : Mu} {H : Hp} {x y : V} {dx dy : D} (rp : Rep K Φ G as μ H) (d1 : Dat K G as x dx) (d2 : Dat K G as y dy) {ds : List D} (e1 : asL μ dy = some ds) (e2 : D.ok 64 (seen μ dx) = true) (e3 : D.okL 63 ds = true) :
    ∃ d es, Dp K H x d ∧ Dp K H y (.list es) ∧ SeqAt.shaped d = true ∧ SeqAt.shaped (.list es) = true ∧ (es.any fun z => PyData.eqv z d) = ds.any fun z => deq z (seen μ dx) := by
  obtain ⟨h1, h2⟩ := list_dp rp d2 e1 e3
  exact ⟨_, _, seen_dp rp d1 e2, h1, ok_shaped e2, h2, pdL_any _ _⟩
theorem rInU_v : R2' K (rInU K) (vInU false) := ⟨fun Φ G as μ H x y dx dy q R rp d1 d2 h k => by
  unfold vInU at h
  split at h
  · obtain ⟨c, e, h⟩ := h
    exact .inl (rInC_v.go Φ G as μ H x y _ _ q R rp d1 d2 ⟨c, _, e, rfl, h⟩ k)
  · rcases h with h | ⟨ds, e1, e2, e3, h⟩
    · exact .inr (.inl (rIn_v.go Φ G as μ H x y _ _ q R rp d1 d2 h k))
    · obtain ⟨d, es, a1, a2, a3, a4, a5⟩ := inU_aux rp d1 d2 e1 e2 e3
      exact .inr (.inr ⟨d, es, a1, a2, a3, a4, by rw [a5]; exact given rp (.bl _) h k⟩)⟩
theorem rNotInU_v : R2' K (rNotInU K) (vInU true) := ⟨fun Φ G as μ H x y dx dy q R rp d1 d2 h k => by
  unfold vInU at h
  split at h
  · obtain ⟨c, e, h⟩ := h
    exact .inl (rNotInC_v.go Φ G as μ H x y _ _ q R rp d1 d2 ⟨c, _, e, rfl, h⟩ k)
  · rcases h with h | ⟨ds, e1, e2, e3, h⟩
    · exact .inr (.inl (rIn_v.go Φ G as μ H x y _ _ q R rp d1 d2 h k))
    · obtain ⟨d, es, a1, a2, a3, a4, a5⟩ := inU_aux rp d1 d2 e1 e2 e3
      exact .inr (.inr ⟨d, es, a1, a2, a3, a4, by rw [a5]; exact given rp (.bl _) h k⟩)⟩
/-- len, not of dicts -/
def vLenU : RRs := fun xs μ q => ∃ d, xs = [d] ∧ match d with
  | .str z => z.length ≤ sizeLine ∧ q (.val (.int (z.length : Nat))) μ
  | d => ∃ ds, asS μ d = some ds ∧ q (.val (.int (ds.length : Nat))) μ
abbrev rLenU (K : PySem.W.Frag) : List V → Hp → VK → Prop := fun xs H Q => (∃ z, xs = [.str z] ∧ z.length ≤ sizeLine ∧ Q (.int z.length) H) ∨ ∃ p ys, xs = [.ref p] ∧ (SqL K H p ys ∨ SqT K H p ys) ∧ Q (.int ys.length) H
theorem call_lenU {X : Cx} : CallR X (.builtin "len") (rLenU X.K) := call_len_str.or call_len_seq
theorem rLenU_v : Rs K (rLenU K) vLenU := ⟨fun Φ G as μ H xs dds q R rp dd ⟨d, e1, h⟩ k => by
  split at h
  · exact .inl (rLenS_v.go Φ G as μ H xs dds q R rp dd ⟨_, e1, h.1, h.2⟩ k)
  · obtain ⟨ds, e2, h⟩ := h
    exact .inr (rLen_v.go Φ G as μ H xs dds q R rp dd ⟨_, ds, e1, e2, h⟩ k)⟩
/-- x is True, x is False -/
def vIsB (neg : Bool) : RR2 := fun x y μ q => ∃ a b, x = .bl a ∧ y = .bl b ∧ q (.val (.bl (if neg then !decide (a = b) else decide (a = b)))) μ
theorem rIsB_v : R2' K rIsB (vIsB false) := ⟨fun Φ G as μ H x y dx dy q R rp d1 d2 ⟨a, b, e1, e2, h⟩ k => by
  subst e1 e2
  exact ⟨a, b, dat_bl d1, dat_bl d2, given rp (.bl _) h k⟩⟩
theorem rNotB_v : R2' K rNotB (vIsB true) := ⟨fun Φ G as μ H x y dx dy q R rp d1 d2 ⟨a, b, e1, e2, h⟩ k => by
  subst e1 e2
  exact ⟨a, b, dat_bl d1, dat_bl d2, given rp (.bl _) h k⟩⟩
end
/-! ### chains -/
section
variable {X : Cx} {W : WX} {a b c : Expr} {da db dc : DTE} {pos : Pos}
theorem de_chain {op op' : CmpOp} {r r' : R2} {dr dr' : RR2} (ho : OpR X (compareOp op) r) (ho' : OpR X (compareOp op') r') (hd : R2' X.K r dr) (hd' : R2' X.K r' dr') (ha : DE X W a da) (hb : DE X W b db) (hc : DE X W c dc)
    (hm : lastMarks [op, op'] [b, c] = false := by with_unfolding_all rfl) : DE X W (.Compare a [op, op'] [b, c] pos) (dChain (fun x y μ Q => dr x y μ (resF Q)) (fun x y μ Q => dr' x y μ (resF Q)) da db dc) :=
  peI (pe_chain ho ho' ha hb hc hm) fun σ H R ⟨Φ, ρ, G, as, μ, Q, Ex, sr, rp, q, lx, k⟩ =>
  ⟨Φ, ρ, G, as, μ, _, Ex, sr, rp, q, lx, fun G1 as1 μ1 H1 x dx g1 rp1 d1 q1 => ⟨Φ, ρ, G1, as1, μ1, _, Ex, sr.mono g1, rp1, q1, lx.mono g1, fun G2 as2 μ2 H2 y dy g2 rp2 d2 q2 =>
    (hd.to takesF) Φ G2 as2 μ2 H2 x y dx dy _ _ rp2 (d1.mono g2) d2 q2 fun G3 as3 μ3 H3 z dz g3 rp3 d3 ⟨kk, e, q3⟩ => by
      subst e
      refine ⟨kk, dat_bl d3, ?_⟩
      have gg := (g1.trans g2).trans g3
      cases kk with
      | false => exact iteF (k _ _ _ _ _ _ gg rp3 (.bl false) (by simpa using q3))
      | true =>
        rw [if_pos rfl] at q3
        exact iteT ⟨Φ, ρ, G3, as3, μ3, _, Ex, sr.mono gg, rp3, q3, lx.mono gg, fun G4 as4 μ4 H4 w dw g4 rp4 d4 q4 =>
          (hd'.to takesF) Φ G4 as4 μ4 H4 y w dy dw Q R rp4 (d2.mono (g3.trans g4)) d4 q4 fun G5 as5 μ5 H5 u du g5 rp5 d5 q5 => k _ _ _ _ _ _ ((gg.trans g4).trans g5) rp5 d5 q5⟩⟩⟩
theorem dt_chain {op op' : CmpOp} {r r' : R2} {dr dr' : RR2} (ho : OpR X (compareOp op) r) (ho' : OpR X (compareOp op') r') (hd : R2' X.K r dr) (hd' : R2' X.K r' dr') (ha : DE X W a da) (hb : DE X W b db) (hc : DE X W c dc)
    (hm : lastMarks [op, op'] [b, c] = false := by with_unfolding_all rfl) : DT X W (.Compare a [op, op'] [b, c] pos) (dB (dChain (fun x y μ Q => dr x y μ (resF Q)) (fun x y μ Q => dr' x y μ (resF Q)) da db dc)) :=
  ptI (pt_chain ho ho' ha hb hc hm) fun σ H R h => by
    obtain ⟨Φ, ρ, G, as, μ, Q, Ex, sr, rp, q, lx, k⟩ := h
    refine ⟨Φ, ρ, G, as, μ, _, Ex, sr, rp, q, lx, fun G1 as1 μ1 H1 x dx g1 rp1 d1 q1 => ⟨Φ, ρ, G1, as1, μ1, _, Ex, sr.mono g1, rp1, q1, lx.mono g1, fun G2 as2 μ2 H2 y dy g2 rp2 d2 q2 =>
      (hd.to takesF) Φ G2 as2 μ2 H2 x y dx dy _ _ rp2 (d1.mono g2) d2 q2 fun G3 as3 μ3 H3 z dz g3 rp3 d3 ⟨kk, e, q3⟩ => ?_⟩⟩
    subst e
    refine ⟨kk, dat_bl d3, ?_⟩
    have gg := (g1.trans g2).trans g3
    cases kk with
    | false =>
      rw [if_neg (by simp)] at q3
      obtain ⟨c, e, q3⟩ := q3
      cases e
      exact iteF ⟨false, rfl, k _ _ _ _ _ gg rp3 q3⟩
    | true =>
      rw [if_pos rfl] at q3
      exact iteT ⟨Φ, ρ, G3, as3, μ3, _, Ex, sr.mono gg, rp3, q3, lx.mono gg, fun G4 as4 μ4 H4 w dw g4 rp4 d4 q4 =>
        (hd'.to takesF) Φ G4 as4 μ4 H4 y w dy dw _ _ rp4 (d2.mono (g3.trans g4)) d4 q4 fun G5 as5 μ5 H5 u du g5 rp5 d5 ⟨c, e, q5⟩ => by
          subst e
          exact ⟨c, dat_bl d5, k _ _ _ _ _ ((gg.trans g4).trans g5) rp5 q5⟩⟩
end
end DL

/-! DLh: names of the module, calls of what a name holds, texts walked, while, pairs. -/
namespace DL
open PySem PySem.Spec PyProof.Rows L2

/-- a constant of the module's top, by its tree -/
def DConst (K : PySem.W.Frag) (mg : Str → Option Value) (x : Str) (d : D) : Prop := ∃ (u : Value) (v : V), mg x = some u ∧ RelV v u ∧ ∀ G as, Dat K G as v d
theorem hu65 {k : Nat} {A : Around} (hr : Room k A) : A.units + 65 < cLine := by have := hr.un; omega
section
variable {X : Cx} {W : WX} {pos p apos cpos : Pos} {x : Str} {C : Addr}
def dK (d : D) : DTE := dC d
theorem de_const {d : D} (h : DConst X.K X.mg x d) (hg : Gl X x := by rfl) (hdb : (x == ("__debug__" : Str)) = false := by decide) : DE X W (.Name x pos) (dC d) := by
  obtain ⟨u, v, hm, r, hd⟩ := h
  exact de_glob hm r hd hg hdb
theorem de_cls (hm : X.mg x = some (.ref C)) (hg : Gl X x := by rfl) (hdb : (x == ("__debug__" : Str)) = false := by decide) : DE X W (.Name x pos) (dC (.ref C)) := de_glob (v := .ref C) hm rfl (fun _ _ => .ref C) hg hdb
theorem de_ty {n : String} (hm : X.mg x = none) (hv : bootBuiltins x = some (.type n) := by decide +kernel) (hg : Gl X x := by rfl) (hn : x ≠ "__name__" := by decide) (hdb : (x == ("__debug__" : Str)) = false := by decide) : DE X W (.Name x pos) (dC (.ty n)) := de_bltn (v := .ty n) hm hv rfl (fun _ _ => .ty n) hg hn hdb
/-- a def as a value -/
theorem de_fnv {f : Addr} (hm : X.mg x = some (.ref f)) (hg : Gl X x := by rfl) (hdb : (x == ("__debug__" : Str)) = false := by decide) : DE X W (.Name x pos) (dC (.ref f)) := de_glob (v := .ref f) hm rfl (fun _ _ => .ref f) hg hdb
/-- .. whatever its address: what it promises goes with it -/
structure FnAt (P : Program) (w : World) (K : PySem.W.Frag) (mg : Str → Option Value) (base : Heap) (f : Addr) (k n : Nat) (sp : DSp) : Prop where
  ex : ∃ (fd : FuncData) (ps : List Str), FnOk P w K mg base (L2.CX P w) k f fd ps (liftSp K n sp) ∧ PySem.W.keepIn K (.ref f) = true ∧ Binds K fd ps []
def dFnv (P : Program) (w : World) (K : PySem.W.Frag) (mg : Str → Option Value) (base : Heap) (k n : Nat) (sp : DSp) : DTE := fun _ μ Q _ => ∀ f, FnAt P w K mg base f k n sp → Q (.ref f) μ
theorem de_fn {k n : Nat} {sp : DSp} (F : DFn X.prog X.w X.K X.mg X.base x k n sp) (hg : Gl X x := by rfl) (hdb : (x == ("__debug__" : Str)) = false := by decide) : DE X W (.Name x pos) (dFnv X.prog X.w X.K X.mg X.base k n sp) := by
  obtain ⟨f, fd, ps, F, hm, hk, hb⟩ := F.ex
  exact peI (de_fnv (W := W) hm hg hdb) fun σ H R ⟨Φ, ρ, G, as, μ, Q, Ex, sr, rp, q, lx, k⟩ => ⟨Φ, ρ, G, as, μ, Q, Ex, sr, rp, q f ⟨fd, ps, F, hk, hb⟩, lx, k⟩
variable {e o i : Expr} {es : List Expr} {da db : DTE} {ta : DTA}
/-- a call of what a slot holds -/
def dCallL (P : Program) (w : World) (K : PySem.W.Frag) (mg : Str → Option Value) (base : Heap) (k : Nat) (qf : DQ → QR) (i : Nat) (ta : DTA) : DTE := fun ρ μ Q Ex => ∃ (f : Addr) (n : Nat) (sp : DSp), ρ[i]? = some (some (.ref f)) ∧ FnAt P w K mg base f k n sp ∧ ta ρ μ (fun ds μ1 => ds.length = n ∧ sp ds μ1 (qf Q) Ex) Ex
theorem pe_callLS {CX : CXT} {k i : Nat} {f : Addr} {fd : FuncData} {ps : List Str} {sp : Sp} {E : L2.St → XK} {t : TA} (F : FnOk X.prog X.w X.K X.mg X.base CX k f fd ps sp) (hr : Room k X.A) (hN : X.N[i]? = some x) (hv : Vis X.env.scope x) (hk : PySem.W.keepIn X.K (.ref f) = true) (hb : Binds X.K fd ps []) (hx : ∀ σ, PassesAt CX X σ (E σ)) (ha : PA X (e :: es) t)
    (hdb : (x == ("__debug__" : Str)) = false := by decide) (hcd : (x == ("__classdict__" : Str)) = false := by decide)
    (he : starEach (e :: es) X.env = (false, eval e X.env) :: starEach es X.env := by rfl) (hpl : (backTo pos (starEach es X.env)).any (·.1) = false := by rfl) :
    PE X (.Call (.Name x p) (e :: es) [] pos) (fun σ H Q => σ[i]? = some (some (.ref f)) ∧ t σ H fun vs H1 => sp vs H1 Q (E σ)) := by
  constructor
  intro pins s σ H Q I ⟨hs, ht⟩
  apply wpAny_Call_Name_kw
  refine thn ((pe_var (pos := p) hN hv hdb hcd).run pins s σ H (fun v H1 => v = .ref f ∧ H1 = H) I ⟨.ref f, hs, rfl, rfl⟩) ?_
  rintro u s1 ⟨v, H1, I1, r1, rfl, rfl⟩
  cases r1
  have go := thn (ha.run pos pins s1 σ _ _ I1 ht) fun us s2 ⟨vs, H2, I2, r, q⟩ => (⟨I2.kIn, run_fnS F hr hb (hx σ) I2 r q⟩ : X.K.In s2.heap ∧ _)
  exact PySem.W.callWith_K (h₀ := X.base) I.ok.mod.kin hk go he hpl
theorem de_callL {k i : Nat} {qf : DQ → QR} (t2 : Takes2 qf) (hr : Room k X.A) (tk : Takes X W) (hN : X.N[i]? = some x) (hv : Vis X.env.scope x) (ha : DA X W (e :: es) ta)
    (hdb : (x == ("__debug__" : Str)) = false := by decide) (hcd : (x == ("__classdict__" : Str)) = false := by decide)
    (he : starEach (e :: es) X.env = (false, eval e X.env) :: starEach es X.env := by rfl) (hpl : (backTo pos (starEach es X.env)).any (·.1) = false := by rfl) : DE X W (.Call (.Name x p) (e :: es) [] pos) (dCallL X.prog X.w X.K X.mg X.base k qf i ta) := by
  constructor
  rintro pins s σ H R I ⟨Φ, ρ, G, as, μ, Q, Ex, sr, rp, ⟨f, n, sp, hs, hF, q⟩, lx, k⟩
  obtain ⟨fd, ps, F, hk, hb⟩ := hF.ex
  obtain ⟨v, hv2, hd⟩ := sr.at' i _ hs
  have ev := dat_ref hd
  subst ev
  exact (pe_callLS (p := p) (pos := pos) F hr hN hv hk hb (fun σ => passAt tk σ) ha hdb hcd he hpl).run pins s σ H R I ⟨hv2, Φ, ρ, G, as, μ, _, Ex, sr, rp, q, lx, fun G1 as1 μ1 H1 vs ds g1 rp1 d1 ⟨hn, q1⟩ => call_up t2 hn rp1 d1 q1 (lx.mono g1) fun G' as' μ' H' v d g' => k G' as' μ' H' v d (g1.trans g')⟩
/-- a text sign by sign -/
def signsD (z : Str) : List D := z.cps.toList.map fun c => D.str ⟨#[c]⟩
def diS (te : DTE) : DTI := fun ρ μ Q Ex => te ρ μ (fun d μ1 => ∃ z, d = .str z ∧ Q (signsD z) μ1) Ex
theorem di_str {tg : Expr} (h : DE X W e da) : DI X W tg e (diS da) := piI (pi_str h) fun σ H R ⟨Φ, ρ, G, as, μ, Q, Ex, sr, rp, q, lx, k⟩ =>
  ⟨Φ, ρ, G, as, μ, _, Ex, sr, rp, q, lx, fun G1 as1 μ1 H1 v d g1 rp1 d1 ⟨z, e, q1⟩ => by
    subst e
    refine ⟨z, dat_str d1, k _ _ _ _ _ _ g1 rp1 (fun i Φ G' as' μ' H' g rp => ⟨fun d e => ?_, fun hl => ?_⟩) q1⟩
    · unfold signsD at e
      rw [List.getElem?_map] at e
      cases e2 : z.cps.toList[i]? with
      | none => rw [e2] at e; cases e
      | some c =>
        rw [e2] at e
        cases e
        have hi : i < z.cps.size := by have := (List.getElem?_eq_some_iff.mp e2).1; simpa using this
        have e3 : z.cps[i]? = some c := by rw [← Array.getElem?_toList]; exact e2
        refine ⟨hi, fun x H'' ⟨h1, c', h2, h3⟩ => ?_⟩
        subst h1 h3
        rw [e3] at h2
        cases h2
        exact ⟨G', Gr.refl _ _, rp, .str _⟩
    · show z.cps.size ≤ i
      simpa [signsD] using hl⟩
/-- while -/
def dWhile (c : DTT) (tb : DTS) : DTS := fun E ρ μ => ∃ I : Nat → Rho → Mu → Prop, (∃ m, I m ρ μ) ∧ ∀ m ρ μ, I m ρ μ → E.lo ≤ μ.length ∧
  c ρ μ (fun b μ1 => if b = true then tb { lo := E.lo, nx := fun ρ' μ' => ∃ m', m' < m ∧ I m' ρ' μ', rt := E.rt, ex := E.ex, bk := E.nx, ct := fun ρ' μ' => ∃ m', m' < m ∧ I m' ρ' μ' } ρ μ1 else E.nx ρ μ1) (fun x μ1 => E.ex x ρ μ1)
theorem ds_while {c : Expr} {body : List Stmt} {tc : DTT} {tb : DTS} (hp : PassesOwn (model X.prog X.w) X.A X.env X.xe) (hc : DT X W c tc) (hb : DSs X W body tb) : DS X W (.While c body [] pos) (dWhile tc tb) := psI (ps_while hp hc hb) fun E σ H ⟨Φ, ρ, G0, as0, G, as, μ, DE, g0, sr, rp, ⟨I, ⟨m0, hI⟩, turn⟩, le⟩ => by
  refine ⟨fun m σ' H' => ∃ ρ' G' as' μ', Gr G0 as0 G' as' ∧ SRel X.K G' as' σ' ρ' ∧ Rep X.K Φ G' as' μ' H' ∧ I m ρ' μ', ⟨m0, ρ, G, as, μ, g0, sr, rp, hI⟩, ?_⟩
  rintro m σ' H' ⟨ρ', G', as', μ', g', sr', rp', hI'⟩
  obtain ⟨_, t⟩ := turn m ρ' μ' hI'
  refine ⟨Φ, ρ', G', as', μ', _, _, sr', rp', t, le.lxg g' sr', fun G1 as1 μ1 H1 b g1 rp1 q1 => ?_⟩
  cases b with
  | false => exact iteF (le.nx _ _ _ _ _ _ (g'.trans g1) rp1 (sr'.mono g1) (by simpa using q1))
  | true =>
    rw [if_pos rfl] at q1
    exact iteT ⟨fun σ2 H2 => ∃ m', m' < m ∧ ∃ ρ2 G2 as2 μ2, Gr G0 as0 G2 as2 ∧ SRel X.K G2 as2 σ2 ρ2 ∧ Rep X.K Φ G2 as2 μ2 H2 ∧ I m' ρ2 μ2, fun σ2 H2 z => z, Φ, ρ', G0, as0, G1, as1, μ1, _, g'.trans g1, sr'.mono g1, rp1, q1,
      ⟨le.lo, fun G2 as2 μ2 H2 σ2 ρ2 g2 rp2 sr2 ⟨m', hm, q2⟩ => ⟨m', hm, ρ2, G2, as2, μ2, g2, sr2, rp2, q2⟩, le.rt, le.ex, le.nx, fun G2 as2 μ2 H2 σ2 ρ2 g2 rp2 sr2 ⟨m', hm, q2⟩ => ⟨m', hm, ρ2, G2, as2, μ2, g2, sr2, rp2, q2⟩⟩⟩
/-- a, b = x, y -/
def dPar (i j : Nat) (ta : DTA) : DTS := fun E ρ μ => ta ρ μ (fun ds μ1 => ∃ d e, ds = [d, e] ∧ E.nx ((ρ.set i (some d)).set j (some e)) μ1) (fun x μ1 => E.ex x ρ μ1)
theorem ds_par {i j : Nat} {x y : Str} {a b : Expr} {px py pt : Pos} {kt k2 pt2} (hc : X.calm = true) (hN : X.N.Nodup) (hi : X.N[i]? = some x) (hj : X.N[j]? = some y) (hij : i ≠ j)
    (hx : X.env.scope.names.lookup x = some .local) (hy : X.env.scope.names.lookup y = some .local) (ha : DA X W [a, b] ta)
    (hw : swappedStores [.Tuple [.Name x px, .Name y py] kt pt] (.Tuple [a, b] k2 pt2) X.env = pure (some [x, y]))
    (hs : swapsWithSole [.Tuple [.Name x px, .Name y py] kt pt] (.Tuple [a, b] k2 pt2) pos.line X.env = pure false := by rfl) :
    DS X W (.Assign [.Tuple [.Name x px, .Name y py] kt pt] (.Tuple [a, b] k2 pt2) pos) (dPar i j ta) := psI (ps_par hc hN hi hj hij hx hy ha hw hs) fun E σ H ⟨Φ, ρ, G0, as0, G, as, μ, DE, g0, sr, rp, q, le⟩ =>
  ⟨Φ, ρ, G, as, μ, _, _, sr, rp, q, le.lxg g0 sr, fun G1 as1 μ1 H1 vs ds g1 rp1 d1 ⟨d, e, e1, q1⟩ => by
    subst e1
    obtain ⟨v, w, rfl, hv, hw⟩ := dats2 d1
    exact ⟨v, w, rfl, le.nx _ _ _ _ _ _ (g0.trans g1) rp1 (((sr.mono g1).set i hv).set j hw) q1⟩⟩
/-- {}: a new dict of its own, or settled -/
def dDnewC : DTE := fun _ μ Q _ => Q (.cell μ.length) (μ ++ [.dic []])
def dDnew : DTE := fun _ μ Q _ => Q (.dic []) μ
theorem de_dnewC : DE X W (.Dict [] [] pos) dDnewC := peI pe_dnewK fun σ H R ⟨Φ, ρ, G, as, μ, Q, Ex, sr, rp, q, lx, k⟩ p hp => by
  obtain ⟨g2, rp2, hat⟩ := rp.newCell (o := .dK []) (m := .dic []) hp ⟨[], rfl, .nil⟩
  exact k _ _ _ _ _ _ g2 rp2 (.cell hat) q
theorem de_dnew : DE X W (.Dict [] [] pos) dDnew := peI pe_dnewK fun σ H R ⟨Φ, ρ, G, as, μ, Q, Ex, sr, rp, q, lx, k⟩ p hp => by
  obtain ⟨g2, rp2⟩ := rp.grow (o := .dK []) hp
  exact k _ _ _ _ _ _ g2 rp2 (.dic (.inl upd_same) .nil) q
end

/-! ### what the top has written -/
section
variable {K : PySem.W.Frag} {mg : Str → Option Value} {h : Heap}
theorem topFn_mk {x : Str} {st : Stmt} {ps : List Str} {f : Addr} {oc : Value} {od an : Option Addr} {osl : Array (Option Value)} {kV doc pm cdv ct : Value} (X : K.In h) (G : h.Ns mainGlobals mg) (a : PySem.W.nsIn K mainGlobals x = some (some (.ref f)))
    (l : K.lookup f = some ⟨oc, od, .func (PySem.W.fnOf x x (defArgs st) (defBody st) (defScope st) .none kV doc pm an cdv ct), osl⟩) (c : PySem.W.codeIn K cdv x = true) (k : PySem.W.keepIn K (.ref f) = true)
    (b : ∀ (kV doc pm : Value) (an : Option Addr) (cdv ct : Value) (us : List Value), us.length = ps.length → bindArgs (PySem.W.fnOf x x (defArgs st) (defBody st) (defScope st) .none kV doc pm an cdv ct) ⟨us, []⟩ = pure (ps.zip us)) : TopFn K mg x st ps :=
  ⟨f, _, fun_mk l c k, PySem.W.mg_of X G a, (fun_mk (st := st) l c k).binds b⟩
theorem topMt_mk {m qual : Str} {st : Stmt} {ps : List Str} {C f : Addr} {oc : Value} {od an : Option Addr} {osl : Array (Option Value)} {kV doc pm cdv ct : Value} (a : PySem.W.findIn K (.ref C) m = some (some (.ref f))) (i : PySem.W.isFn K (.ref f) = true)
    (l : K.lookup f = some ⟨oc, od, .func (PySem.W.fnOf m qual (defArgs st) (defBody st) (defScope st) .none kV doc pm an cdv ct), osl⟩) (c : PySem.W.codeIn K cdv qual = true) (k : PySem.W.keepIn K (.ref f) = true)
    (b : ∀ (kV doc pm : Value) (an : Option Addr) (cdv ct : Value) (us : List Value), us.length = ps.length → bindArgs (PySem.W.fnOf m qual (defArgs st) (defBody st) (defScope st) .none kV doc pm an cdv ct) ⟨us, []⟩ = pure (ps.zip us)) : TopMt K C m qual st ps :=
  ⟨f, _, fun_mk l c k, ⟨a, i, k⟩, (fun_mk (st := st) l c k).binds b⟩
theorem const_str {x : Str} {z : Str} {t : Tok} (X : K.In h) (G : h.Ns mainGlobals mg) (a : PySem.W.nsIn K mainGlobals x = some (some (.str z t))) : DConst K mg x (.str z) := ⟨_, .str z, PySem.W.mg_of X G a, ⟨t, rfl⟩, fun _ _ => .str z⟩
theorem const_int {x : Str} {z : Int} {t : Tok} (X : K.In h) (G : h.Ns mainGlobals mg) (a : PySem.W.nsIn K mainGlobals x = some (some (.int z t))) : DConst K mg x (.int z) := ⟨_, .int z, PySem.W.mg_of X G a, ⟨t, rfl⟩, fun _ _ => .int z⟩
/-- a tuple of flat things -/
inductive FlatIs : Value → V → D → Prop
  | str (z : Str) (t : Tok) : FlatIs (.str z t) (.str z) (.str z)
  | int (z : Int) (t : Tok) : FlatIs (.int z t) (.int z) (.int z)
inductive FlatsAre : List Value → List V → List D → Prop
  | nil : FlatsAre [] [] []
  | cons {u : Value} {v : V} {d : D} {us : List Value} {vs : List V} {ds : List D} (h : FlatIs u v d) (t : FlatsAre us vs ds) : FlatsAre (u :: us) (v :: vs) (d :: ds)
theorem FlatsAre.vals : ∀ {us : List Value} {vs : List V} {ds : List D}, FlatsAre us vs ds → Vals vs us
  | _, _, _, .nil => .nil
  | _, _, _, .cons (.str z t) r => .cons ⟨t, rfl⟩ (FlatsAre.vals r)
  | _, _, _, .cons (.int z t) r => .cons ⟨t, rfl⟩ (FlatsAre.vals r)
theorem FlatsAre.dats {G : Hp} {as : List Addr} : ∀ {us : List Value} {vs : List V} {ds : List D}, FlatsAre us vs ds → Dats K G as vs ds
  | _, _, _, .nil => .nil
  | _, _, _, .cons (.str z t) r => .cons (.str z) (FlatsAre.dats r)
  | _, _, _, .cons (.int z t) r => .cons (.int z) (FlatsAre.dats r)
theorem const_tup {x : Str} {p : Addr} {us : List Value} {n : Nat} {dd : Option Addr} {sl : Array (Option Value)} {vs : List V} {ds : List D} (X : K.In h) (G : h.Ns mainGlobals mg) (a : PySem.W.nsIn K mainGlobals x = some (some (.ref p))) (l : K.lookup p = some ⟨.type "tuple", dd, .seq us.toArray n, sl⟩) (f : FlatsAre us vs ds) (hz : us.length ≤ sizeLine) : DConst K mg x (.tup ds) :=
  ⟨_, .ref p, PySem.W.mg_of X G a, rfl, fun G as => .tup (.inr ⟨_, us.toArray, n, l, rfl, rfl, by simpa using hz, by simpa using f.vals⟩) f.dats⟩
end

/-! ### the end of a law -/
def spLawV (K : PySem.W.Frag) : Sp := fun vs H Q _ => ∃ (a : Addr) (ns : List Int), vs = [.ref a] ∧ SqL K H a (ns.map V.int) ∧ ns.length ≤ 63 ∧ ∀ H', Q (.bl true) H'
/-- what the law promises: True, whatever the script -/
def spLaw : DSp := fun ds μ q _ => ∃ ns : List Int, ds = [.lsk (ns.map D.int)] ∧ ns.length ≤ 63 ∧ μ = [] ∧ ∀ μ', q (.val (.bl true)) μ'
theorem ints_dats {K : PySem.W.Frag} {G : Hp} {as : List Addr} : ∀ ns : List Int, Dats K G as (ns.map V.int) (ns.map D.int)
  | [] => .nil
  | s :: ss => .cons (.int s) (ints_dats ss)
theorem law_sp {K : PySem.W.Frag} {vs : List V} {H : Hp} {Q : VK} {E : XK} (h : spLawV K vs H Q E) : liftSp K 1 spLaw vs H Q E := by
  obtain ⟨a, ns, rfl, hS, hl, k⟩ := h
  refine ⟨fun _ => none, H, [], [], [.lsk (ns.map D.int)], fun r _ => r = .val (.bl true), never, ⟨Same.refl H, rfl, .nil, fun a h => (by simp at h), fun _ _ e => (by cases e), fun _ _ e => (by cases e), fun a h => (by simp at h), fun i a m h1 => (by simp at h1)⟩, .cons (.lsk hS (ints_dats ns)) .nil, rfl, ⟨ns, rfl, hl, rfl, fun μ' => rfl⟩, ?_, fun _ _ _ _ _ _ _ _ _ _ z => z.elim⟩
  rintro G' as' μ' H' v r g rp rd rfl
  have e : v = .bl true := dat_bl rd
  subst e
  exact k H'
theorem walk {l : PySem.W.OpenLaw} {q : Program} {loose : List Str} {XP : (Str → Option Value) → Heap → Prop} {YP : World → Heap → Prop} {d : DefRec} {K : Params → PySem.W.Frag} {k : Nat} (hn : l.most = some 63) (hdf : d.params.defaults = []) (hroom : Room k callerA)
    (hY : ∀ (w : World) (h : Heap), YP w h → (K w.params).In h)
    (F : ∀ (w : World) (mg : Str → Option Value) (fa : Addr) (h : Heap), (K w.params).In h → h.Ns mainGlobals mg → mg d.name = some (.ref fa) →
      ∃ fd : FuncData, (∀ (s : Shared) (u : Value), BindsTo s fd ⟨[u], []⟩ [("_law_script", u)]) ∧ ∀ base : Heap, (K w.params).In base → base.Ns mainGlobals mg → FnOk l.prog w (K w.params) mg base (L2.CX l.prog w) k fa fd ["_law_script"] (spLawV (K w.params))) :
    PySem.W.WalkO q loose XP YP l.row.toRowW d [] (fun f vs => PySem.call f vs) :=
  L2.walk_of (n := 63) (k := k) (x := "_law_script") (CX := fun w => L2.CX l.prog w) (sp := fun w => spLawV (K w.params)) hn (by decide) hdf hroom hY F (fun _ _ a ns hl _ hS => ⟨a, ns, rfl, hS, hl, fun _ => rfl⟩) fun _ _ _ _ _ z => by
    obtain ⟨_, _, _, _, _, _, _, _, _, _, _, _, z⟩ := z
    exact z.elim
end DL

/-! DLi: to read a def's body: all readings are unfolded at once. -/
namespace DL
open PySem PySem.Spec PyProof.Rows L2
theorem FinR.val' {μ μ1 ex : Mu} {qr : QR} {d : D} (hl : μ1.length = μ.length) (wf : Wf μ1) (hd : D.cl μ.length d = true) (q : qr (.val d) μ1) : FinR μ qr d (μ1 ++ ex) := by
  have e : (μ1 ++ ex).take μ.length = μ1 := by rw [← hl]; simp
  exact .more μ.length (Nat.le_refl _) hd (by rw [e, ← hl]; exact wf) (by rw [e]; exact q)
theorem FinR.val0 {μ μ1 : Mu} {qr : QR} {d : D} (hl : μ1.length = μ.length) (q : qr (.val d) μ1) : FinR μ qr d μ1 := .same hl q
/-- the cell i is a list of three numbers -/
def St3 (μ : Mu) (i : Nat) : Prop := ∃ a b c : Int, μ[i]? = some (.lst [.int a, .int b, .int c])
/-- nothing but such a cell is changed -/
def Up3 (i : Nat) (μ μ' : Mu) : Prop := ∃ a b c : Int, μ' = μ.set i (.lst [.int a, .int b, .int c])
theorem Up3.len {i : Nat} {μ μ' : Mu} (h : Up3 i μ μ') : μ'.length = μ.length := by obtain ⟨a, b, c, rfl⟩ := h; simp
theorem Up3.st {i : Nat} {μ μ' : Mu} (h : Up3 i μ μ') (s : St3 μ i) : St3 μ' i := by
  obtain ⟨a, b, c, rfl⟩ := h
  obtain ⟨a', b', c', e⟩ := s
  exact ⟨a, b, c, by rw [List.getElem?_set, if_pos rfl, if_pos (List.getElem?_eq_some_iff.mp e).1]⟩
theorem Up3.trans {i : Nat} {μ μ1 μ2 : Mu} (h : Up3 i μ μ1) (h2 : Up3 i μ1 μ2) : Up3 i μ μ2 := by
  obtain ⟨a, b, c, rfl⟩ := h
  obtain ⟨a', b', c', rfl⟩ := h2
  exact ⟨a', b', c', by simp⟩
theorem Up3.refl {i : Nat} {μ : Mu} (s : St3 μ i) : Up3 i μ μ := by
  obtain ⟨a, b, c, e⟩ := s
  exact ⟨a, b, c, by obtain ⟨h, e⟩ := List.getElem?_eq_some_iff.mp e; rw [← e]; simp⟩
theorem Up3.wf {i : Nat} {μ μ' : Mu} (h : Up3 i μ μ') (wf : Wf μ) : Wf μ' := by
  obtain ⟨a, b, c, rfl⟩ := h
  intro m hm
  rw [List.length_set]
  rcases List.mem_or_eq_of_mem_set hm with h | h
  · exact wf m h
  · subst h; rfl
theorem Up3.app {i : Nat} {μ ex μ' : Mu} (hi : i < μ.length) (h : Up3 i (μ ++ ex) μ') : ∃ μ1, Up3 i μ μ1 ∧ μ' = μ1 ++ ex := by
  obtain ⟨a, b, c, rfl⟩ := h
  exact ⟨_, ⟨a, b, c, rfl⟩, by rw [List.set_append_left _ _ hi]⟩
theorem St3.lt {i : Nat} {μ : Mu} (h : St3 μ i) : i < μ.length := by
  obtain ⟨a, b, c, e⟩ := h
  exact (List.getElem?_eq_some_iff.mp e).1
theorem St3.app {i : Nat} {μ ex : Mu} (h : St3 μ i) : St3 (μ ++ ex) i := by
  obtain ⟨a, b, c, e⟩ := h
  exact ⟨a, b, c, by rw [List.getElem?_append_left (List.getElem?_eq_some_iff.mp e).1]; exact e⟩
theorem vEqB_str {a b : Str} {μ : Mu} {q : QR} : vEqB (.str a) (.str b) μ q ↔ q (.val (.bl (decide (a = b)))) μ := by
  constructor
  · rintro (⟨u, v, h1, h2, h3, h⟩ | ⟨h1, h2, h⟩)
    · cases h1; cases h2
      simpa using h
    · simpa [seen] using h
  · intro h
    exact .inl ⟨.str a, .str b, rfl, rfl, rfl, by simpa using h⟩
theorem vNeB_str {a b : Str} {μ : Mu} {q : QR} : vNeB (.str a) (.str b) μ q ↔ q (.val (.bl (!decide (a = b)))) μ := by
  constructor
  · rintro (⟨u, v, h1, h2, h3, h⟩ | ⟨h1, h2, h⟩)
    · cases h1; cases h2
      simpa using h
    · simpa [seen] using h
  · intro h
    exact .inl ⟨.str a, .str b, rfl, rfl, rfl, by simpa using h⟩
theorem vEqB_int {a b : Int} {μ : Mu} {q : QR} : vEqB (.int a) (.int b) μ q ↔ q (.val (.bl (decide (a = b)))) μ := by
  constructor
  · rintro (⟨u, v, h1, h2, h3, h⟩ | ⟨h1, h2, h⟩)
    · cases h1; cases h2
      simpa using h
    · simpa [seen] using h
  · intro h
    exact .inl ⟨.int a, .int b, rfl, rfl, rfl, by simpa using h⟩
theorem vNeB_int {a b : Int} {μ : Mu} {q : QR} : vNeB (.int a) (.int b) μ q ↔ q (.val (.bl (!decide (a = b)))) μ := by
  constructor
  · rintro (⟨u, v, h1, h2, h3, h⟩ | ⟨h1, h2, h⟩)
    · cases h1; cases h2
      simpa using h
    · simpa [seen] using h
  · intro h
    exact .inl ⟨.int a, .int b, rfl, rfl, rfl, by simpa using h⟩
theorem vInU_tup {neg : Bool} {x : D} {ds : List D} {u : V} {us : List V} {μ : Mu} {q : QR} (hx : flatD x = some u) (hs : flatDs ds = some us) : vInU neg x (.tup ds) μ q ↔ q (.val (.bl (if neg then !inV u us else inV u us))) μ := by
  constructor
  · rintro (⟨ds', u', us', h1, h2, h3, h⟩ | ⟨ds', h1, h2, h3, h⟩)
    · cases h1
      rw [hx] at h2; rw [hs] at h3
      cases h2; cases h3
      exact h
    · cases h1
  · intro h
    exact .inl ⟨ds, u, us, rfl, hx, hs, h⟩
theorem any_deq_str {x : Str} (xs : List Str) : ((xs.map D.str).any fun z => deq z (.str x)) = decide (x ∈ xs) := by
  induction xs with
  | nil => rfl
  | cons y ys ih =>
    rw [List.map_cons, List.any_cons, ih, deq_str, Bool.eq_iff_iff, Bool.or_eq_true, decide_eq_true_iff, decide_eq_true_iff, decide_eq_true_iff, List.mem_cons, @eq_comm _ y x]
theorem vInU_strs {neg : Bool} {x : Str} {xs : List Str} {y : D} {μ : Mu} {q : QR} (hy : asL μ y = some (xs.map D.str)) : vInU neg (.str x) y μ q ↔ q (.val (.bl (if neg then !decide (x ∈ xs) else decide (x ∈ xs)))) μ := by
  have hS : asS μ y = some (xs.map D.str) := by
    cases y <;> simp_all [asL, asS]
  have hns : ∀ z, y ≠ .str z := by rintro z rfl; cases hy
  unfold vInU
  split
  · exact absurd rfl (hns _)
  · constructor
    · rintro (⟨ds', u', us', h1, h2, h3, h⟩ | ⟨ds', h1, h2, h3, h⟩)
      · rw [hS] at h1
        cases h1
        cases h2
        rw [flatDs_str] at h3
        cases h3
        rw [inV_str] at h
        exact h
      · rw [hy] at h1
        cases h1
        rw [show seen μ (.str x) = .str x from rfl, any_deq_str] at h
        exact h
    · intro h
      exact .inl ⟨_, _, _, hS, rfl, flatDs_str xs, by rw [inV_str]; exact h⟩
theorem vInU_tp {neg : Bool} {x : D} {ds : List D} {μ : Mu} {q : QR} : vInU neg x (.tup ds) μ q ↔ ∃ u us, flatD x = some u ∧ flatDs ds = some us ∧ q (.val (.bl (if neg then !inV u us else inV u us))) μ := by
  constructor
  · rintro (⟨ds', u', us', h1, h2, h3, h⟩ | ⟨ds', h1, h2, h3, h⟩)
    · cases h1
      exact ⟨_, _, h2, h3, h⟩
    · cases h1
  · rintro ⟨u, us, h2, h3, h⟩
    exact .inl ⟨ds, u, us, rfl, h2, h3, h⟩
theorem atI0 {α : Type} {a : α} {xs : List α} : atI (a :: xs) 0 = some a := atI_nat (j := 0) rfl
theorem atI1 {α : Type} {a b : α} {xs : List α} : atI (a :: b :: xs) 1 = some b := atI_nat (j := 1) rfl
theorem atI2 {α : Type} {a b c : α} {xs : List α} : atI (a :: b :: c :: xs) 2 = some c := atI_nat (j := 2) rfl
theorem atI3 {α : Type} {a b c d : α} {xs : List α} : atI (a :: b :: c :: d :: xs) 3 = some d := atI_nat (j := 3) rfl
theorem atIm {α : Type} {a : α} {xs : List α} : atI (a :: xs) (-1) = some ((a :: xs).getLast (by simp)) := by
  have := atI_last (a :: xs).dropLast ((a :: xs).getLast (by simp))
  rwa [List.dropLast_concat_getLast] at this
theorem eqV_str {a b : Str} : eqV (.str a) (.str b) = decide (a = b) := by
  show (a == b) = decide (a = b)
  rw [Bool.eq_iff_iff]; simp
theorem eqV_int {a b : Int} : eqV (.int a) (.int b) = decide (a = b) := by
  show (a == b) = decide (a = b)
  rw [Bool.eq_iff_iff]; simp
theorem DFn.le {P : Program} {w : World} {K : PySem.W.Frag} {mg : Str → Option Value} {base : Heap} {x : Str} {j k n : Nat} {sp : DSp} (h : j ≤ k) (F : DFn P w K mg base x j n sp) : DFn P w K mg base x k n sp := by
  obtain ⟨f, fd, ps, F, r⟩ := F.ex
  exact ⟨f, fd, ps, F.mono h, r⟩
theorem FinR.law {qr : QR} {b : Bool} {μ' : Mu} (q : ∀ μ', qr (.val (.bl b)) μ') : FinR [] qr (.bl b) μ' := .more 0 (Nat.le_refl _) rfl (fun m hm => by simp at hm) (q _)
theorem atI_map {α β : Type} {f : α → β} {xs : List α} {i : Int} : atI (xs.map f) i = (atI xs i).map f := by
  unfold atI
  rw [List.length_map]
  cases ixN xs.length i with
  | none => rfl
  | some j => simp
theorem atI_in {α : Type} {xs : List α} {i : Int} (h0 : 0 ≤ i) (h : i < xs.length) : ∃ a, atI xs i = some a ∧ a ∈ xs := by
  obtain ⟨j, rfl⟩ : ∃ j : Nat, i = j := ⟨i.toNat, by omega⟩
  have hj : j < xs.length := by omega
  exact ⟨xs[j], atI_nat (by simp [hj]), by simp⟩
theorem atI_back {α : Type} {a : α} {xs : List α} : ∃ b, atI (a :: xs) (-1) = some b := ⟨_, atIm⟩
theorem FinR.new1 {μ : Mu} {qr : QR} {m : MO} (wf : Wf μ) (hg : m ≠ .gone) (hc : m.cl μ.length = true) (q : qr (.fresh m) μ) : FinR μ qr (.cell μ.length) (μ ++ [m]) := .mk wf (Nat.le_refl _) (by simp) hg hc q
theorem get_app {μ1 : Mu} {m : MO} {n : Nat} (hl : μ1.length = n) : (μ1 ++ [m])[n]? = some m := by subst hl; simp
theorem set_app {μ1 : Mu} {m m' : MO} {n : Nat} (hl : μ1.length = n) : (μ1 ++ [m]).set n m' = μ1 ++ [m'] := by subst hl; simp
theorem asL_app {μ1 : Mu} {ds : List D} {n : Nat} (hl : μ1.length = n) : asL (μ1 ++ [.lst ds]) (.cell n) = some ds := by simp [asL, get_app hl]
theorem join_le (sep : Str) : ∀ ts : List Str, (Str.join sep ts).length ≤ (ts.map (·.length)).sum + ts.length * sep.length
  | [] => Nat.zero_le _
  | [x] => by
    show x.length ≤ _
    simp
  | x :: y :: r => by
    have ih := join_le sep (y :: r)
    show (x ++ sep ++ Str.join sep (y :: r)).length ≤ _
    rw [Str.length_append, Str.length_append]
    simp only [List.map_cons, List.sum_cons, List.length_cons, Nat.succ_mul] at ih ⊢
    omega
theorem tjoin_le (sep : Str) (ts : List Str) : (Txt.join sep ts).length ≤ (ts.map (·.length)).sum + ts.length * sep.length := by
  rw [show Txt.join sep ts = Str.join sep ts from StrLaws.glued_eq_join sep ts]
  exact join_le sep ts
theorem cutG_map {α β : Type} {f : α → β} {xs : List α} {lo hi : Option Int} : cutG (xs.map f) lo hi = (cutG xs lo hi).map f := by
  unfold cutG
  rw [List.length_map, List.map_take, List.map_drop]
theorem cutG_sub {α : Type} {xs : List α} {lo hi : Option Int} : (cutG xs lo hi).Sublist xs := (List.take_sublist _ _).trans (List.drop_sublist _ _)
/-- signs and parts -/
def wt (l : List Str) : Nat := (l.map (·.length)).sum + l.length
theorem wt_sub {l l' : List Str} (h : l.Sublist l') : wt l ≤ wt l' := by
  induction h with
  | slnil => exact Nat.le_refl _
  | cons a h ih => unfold wt at ih ⊢; simp only [List.map_cons, List.sum_cons, List.length_cons]; omega
  | cons_cons a h ih => unfold wt at ih ⊢; simp only [List.map_cons, List.sum_cons, List.length_cons]; omega
theorem wt_app {l l' : List Str} : wt (l ++ l') = wt l + wt l' := by
  unfold wt; simp only [List.map_append, List.sum_append, List.length_append]; omega
theorem wt_cut {xs : List Str} {lo hi : Option Int} : wt (cutG xs lo hi) ≤ wt xs := wt_sub cutG_sub
theorem wt_split {z y : Str} (h : 1 ≤ y.length) : wt (Txt.split z y) ≤ z.length + 1 := split_weight z y h
theorem wt_len {l : List Str} : l.length ≤ wt l := by unfold wt; omega
theorem wt_join {l : List Str} {sep : Str} (h : sep.length = 1) : (l.map (·.length)).sum + l.length * sep.length = wt l ∧ (Txt.join sep l).length ≤ wt l := by
  have := tjoin_le sep l
  rw [h] at this ⊢
  unfold wt
  omega
section
variable {x y : D} {xs ys : List D} {a b : Str} {i j : Int} {c e : Nat} {μ : Mu} {q : QR} {neg : Bool}
theorem vIx_str : vIx (.str a) y μ q ↔ ∃ i c, y = .int i ∧ a.length ≤ sizeLine ∧ atI a.cps.toList i = some c ∧ q (.val (.str ⟨#[c]⟩)) μ := Iff.rfl
theorem vIx_tup : vIx (.tup xs) y μ q ↔ ∃ i d, y = .int i ∧ atI xs i = some d ∧ q (.val d) μ := Iff.rfl
theorem vIx_lst : vIx (.lst xs) y μ q ↔ ∃ i d, y = .int i ∧ atI xs i = some d ∧ q (.val d) μ := ⟨fun ⟨ds, i, d, e, r⟩ => by cases e; exact ⟨i, d, r⟩, fun ⟨i, d, r⟩ => ⟨xs, i, d, rfl, r⟩⟩
theorem vIx_lsk : vIx (.lsk xs) y μ q ↔ ∃ i d, y = .int i ∧ atI xs i = some d ∧ q (.val d) μ := ⟨fun ⟨ds, i, d, e, r⟩ => by cases e; exact ⟨i, d, r⟩, fun ⟨i, d, r⟩ => ⟨xs, i, d, rfl, r⟩⟩
theorem vIx_cell : vIx (.cell c) y μ q ↔ ∃ ds, asL μ (.cell c) = some ds ∧ ∃ i d, y = .int i ∧ atI ds i = some d ∧ q (.val d) μ := ⟨fun ⟨ds, i, d, e, r⟩ => ⟨ds, e, i, d, r⟩, fun ⟨ds, e, i, d, r⟩ => ⟨ds, i, d, e, r⟩⟩
theorem vAdd_int : vAdd (.int i) (.int j) μ q ↔ q (.val (.int (i + j))) μ := Iff.rfl
theorem vAdd_str : vAdd (.str a) (.str b) μ q ↔ a.length + b.length ≤ sizeLine ∧ q (.val (.str (a ++ b))) μ := Iff.rfl
theorem vAdd_ll : vAdd (.lst xs) (.lst ys) μ q ↔ xs.length + ys.length ≤ sizeLine ∧ q (.fresh (.lst (xs ++ ys))) μ := ⟨fun ⟨a, b, e1, e2, r⟩ => by cases e1; cases e2; exact r, fun r => ⟨xs, ys, rfl, rfl, r⟩⟩
theorem vAdd_lc : vAdd (.lst xs) (.cell c) μ q ↔ ∃ ys, asL μ (.cell c) = some ys ∧ xs.length + ys.length ≤ sizeLine ∧ q (.fresh (.lst (xs ++ ys))) μ := ⟨fun ⟨a, b, e1, e2, r⟩ => by cases e1; exact ⟨b, e2, r⟩, fun ⟨b, e2, r⟩ => ⟨xs, b, rfl, e2, r⟩⟩
theorem vAdd_cl : vAdd (.cell c) (.lst ys) μ q ↔ ∃ xs, asL μ (.cell c) = some xs ∧ xs.length + ys.length ≤ sizeLine ∧ q (.fresh (.lst (xs ++ ys))) μ := ⟨fun ⟨a, b, e1, e2, r⟩ => by cases e2; exact ⟨a, e1, r⟩, fun ⟨b, e2, r⟩ => ⟨b, ys, e2, rfl, r⟩⟩
theorem vAdd_cc : vAdd (.cell c) (.cell e) μ q ↔ ∃ xs, asL μ (.cell c) = some xs ∧ ∃ ys, asL μ (.cell e) = some ys ∧ xs.length + ys.length ≤ sizeLine ∧ q (.fresh (.lst (xs ++ ys))) μ := ⟨fun ⟨a, b, e1, e2, r⟩ => ⟨a, e1, b, e2, r⟩, fun ⟨a, e1, b, e2, r⟩ => ⟨a, b, e1, e2, r⟩⟩
theorem vLen_str : vLenU [.str a] μ q ↔ a.length ≤ sizeLine ∧ q (.val (.int (a.length : Nat))) μ := ⟨fun ⟨d, e, r⟩ => by cases e; exact r, fun r => ⟨_, rfl, r⟩⟩
theorem vLen_lst : vLenU [.lst xs] μ q ↔ q (.val (.int (xs.length : Nat))) μ := ⟨fun ⟨d, e, r⟩ => by cases e; obtain ⟨ds, e, r⟩ := r; cases e; exact r, fun r => ⟨_, rfl, xs, rfl, r⟩⟩
theorem vLen_lsk : vLenU [.lsk xs] μ q ↔ q (.val (.int (xs.length : Nat))) μ := ⟨fun ⟨d, e, r⟩ => by cases e; obtain ⟨ds, e, r⟩ := r; cases e; exact r, fun r => ⟨_, rfl, xs, rfl, r⟩⟩
theorem vLen_tup : vLenU [.tup xs] μ q ↔ q (.val (.int (xs.length : Nat))) μ := ⟨fun ⟨d, e, r⟩ => by cases e; obtain ⟨ds, e, r⟩ := r; cases e; exact r, fun r => ⟨_, rfl, xs, rfl, r⟩⟩
theorem vLen_cell : vLenU [.cell c] μ q ↔ ∃ ds, asL μ (.cell c) = some ds ∧ q (.val (.int (ds.length : Nat))) μ := ⟨fun ⟨d, e, r⟩ => by cases e; exact r, fun r => ⟨_, rfl, r⟩⟩
theorem asX_cell : asX μ (.cell c) = asL μ (.cell c) := rfl
theorem asS_cell : asS μ (.cell c) = asL μ (.cell c) := rfl
theorem asL_lst : asL μ (.lst xs) = some xs := rfl
theorem asL_lsk : asL μ (.lsk xs) = some xs := rfl
theorem asX_lst : asX μ (.lst xs) = some xs := rfl
theorem asS_lst : asS μ (.lst xs) = some xs := rfl
theorem asS_lsk : asS μ (.lsk xs) = some xs := rfl
theorem asS_tup : asS μ (.tup xs) = some xs := rfl
theorem asL_get {ds : List D} (h : μ[c]? = some (.lst ds)) : asL μ (.cell c) = some ds := by simp [asL, h]
theorem vInU_sign : vInU neg x (.str a) μ q ↔ ∃ c, x = .str ⟨#[c]⟩ ∧ q (.val (.bl (if neg then !decide (c ∈ a.cps.toList) else decide (c ∈ a.cps.toList)))) μ := Iff.rfl
end
section
variable {CX : CXT} {P : Program} {w : World} {K : PySem.W.Frag} {mg : Str → Option Value} {base : Heap} {N : List Str} {qual : Str} {sc : Scope} {f : Addr} {cdv : Value} {A : Around} {outer : List Env} {s : Shared} {H : Hp} {E : XK}
theorem bx_K : (cxOf CX P w K mg base N qual sc f cdv A outer s H E).K = K := rfl
theorem bx_P : (cxOf CX P w K mg base N qual sc f cdv A outer s H E).prog = P := rfl
theorem bx_w : (cxOf CX P w K mg base N qual sc f cdv A outer s H E).w = w := rfl
theorem bx_mg : (cxOf CX P w K mg base N qual sc f cdv A outer s H E).mg = mg := rfl
theorem bx_base : (cxOf CX P w K mg base N qual sc f cdv A outer s H E).base = base := rfl
end
/-- a cut between a statement and what comes behind it -/
def dSeqI (t u : DTS) : DTS := fun E ρ μ => ∃ I : Rho → Mu → Prop, t { E with nx := I } ρ μ ∧ ∀ ρ μ, I ρ μ → u E ρ μ
theorem dss_cut {X : Cx} {W : WX} {st : Stmt} {rest : List Stmt} {t u : DTS} (h1 : DS X W st t) (h2 : DSs X W rest u) : DSs X W (st :: rest) (dSeqI t u) := pssI (pss_cons h1 h2) fun E σ H ⟨Φ, ρ, G0, as0, G, as, μ, DE, g0, sr, rp, ⟨I, q, hI⟩, le⟩ =>
  ⟨Φ, ρ, G0, as0, G, as, μ, { DE with nx := I }, g0, sr, rp, q, ⟨le.lo, fun G1 as1 μ1 H1 σ1 ρ1 g1 rp1 sr1 q1 => ⟨Φ, ρ1, G0, as0, G1, as1, μ1, DE, g1, sr1, rp1, hI _ _ q1, le⟩, le.rt, le.ex, le.bk, le.ct⟩⟩
theorem room_tr {X : Cx} {k : Nat} {pn : List (Addr × Obj)} {xe : Value → Shared → Prop} (h : Room k X.A) : Room k (X.tr pn xe).A := h
section
variable {X : Cx} {W : WX} {pos p : Pos} {x : Str} {e : Expr} {es : List Expr} {ta : DTA}
theorem de_callLx {P : Program} {w : World} {K : PySem.W.Frag} {mg : Str → Option Value} {base : Heap} {k i : Nat} {qf : DQ → QR} (hX : X.prog = P ∧ X.w = w ∧ X.K = K ∧ X.mg = mg ∧ X.base = base) (t2 : Takes2 qf) (hr : Room k X.A) (tk : Takes X W) (hN : X.N[i]? = some x) (hv : Vis X.env.scope x) (ha : DA X W (e :: es) ta)
    (hdb : (x == ("__debug__" : Str)) = false := by decide) (hcd : (x == ("__classdict__" : Str)) = false := by decide)
    (he : starEach (e :: es) X.env = (false, eval e X.env) :: starEach es X.env := by rfl) (hpl : (backTo pos (starEach es X.env)).any (·.1) = false := by rfl) : DE X W (.Call (.Name x p) (e :: es) [] pos) (dCallL P w K mg base k qf i ta) := by
  obtain ⟨rfl, rfl, rfl, rfl, rfl⟩ := hX
  exact de_callL t2 hr tk hN hv ha hdb hcd he hpl
end
theorem rngD_get {lo : Int} {n i : Nat} {d : D} (h : (rngD lo n)[i]? = some d) : d = .int (lo + i) ∧ i < n := by
  have hi : i < n := by
    have := (List.getElem?_eq_some_iff.mp h).1
    simpa [rngD] using this
  unfold rngD at h
  rw [List.getElem?_map, List.getElem?_range hi] at h
  cases h
  exact ⟨rfl, hi⟩
theorem rngD_len {lo : Int} {n : Nat} : (rngD lo n).length = n := by simp [rngD]
theorem min_nat (k n : Nat) : ∃ m : Nat, (if (k : Int) < (n : Int) then (k : Int) else (n : Int)) = (m : Int) ∧ m ≤ n ∧ m ≤ k := by
  split
  · exact ⟨k, rfl, by omega, Nat.le_refl _⟩
  · exact ⟨n, rfl, Nat.le_refl _, by omega⟩
section
variable {K : PySem.W.Frag} {a b : Addr} {r : Bool} {T : String} {cs : List Value}
theorem kc_own (i : PySem.W.isClsIn K b = true) (t : PySem.W.typeIn K (.ref b) = some (.type "type")) (s : PySem.W.subIn K (.ref a) (.ref b) = some r) : PySem.W.kitCls K (.ref a) (.ref b) = some r := by
  have i' : (PySem.W.clsIn K b).isSome = true := i
  unfold PySem.W.kitCls
  dsimp only
  rw [i', t, s]
  rfl
theorem exm_own (bb : PySem.W.subIn K (.ref b) (.type "BaseException") = some true) (i : PySem.W.isClsIn K b = true) (t : PySem.W.typeIn K (.ref b) = some (.type "type")) (s : PySem.W.subIn K (.ref a) (.ref b) = some r) : PySem.W.exmOne K (.ref a) (.ref b) = some r := by
  unfold PySem.W.exmOne
  rw [bb, kc_own i t s]
  rfl
theorem kit_own (i : PySem.W.isClsIn K b = true) (t : PySem.W.typeIn K (.ref b) = some (.type "type")) (bs : PySem.W.subIn K (.ref b) (.ref b) = some true) (s : PySem.W.subIn K (.ref a) (.ref b) = some r) : PySem.W.kitOne K (.ref a) (.ref b) = some r := by
  unfold PySem.W.kitOne
  split
  · rename_i e
    have e' : a = b := by
      have := eq_of_beq e
      cases this; rfl
    subst e'
    rw [← s, bs]
  · exact kc_own i t s
theorem kit_tyE (m : PySem.W.kitMeta T = true) (s : PySem.W.subIn K (.ref a) (.type T) = some r) : PySem.W.kitOne K (.ref a) (.type T) = some r := by
  unfold PySem.W.kitOne
  rw [if_neg (by simp)]
  unfold PySem.W.kitCls
  dsimp only
  rw [if_pos m, s]
theorem kita_nil : PySem.W.kitAny K (.ref a) [] = some false := rfl
theorem kita_cons (h : PySem.W.kitOne K (.ref a) (.ref b) = some false) (t : PySem.W.kitAny K (.ref a) cs = some false) : PySem.W.kitAny K (.ref a) (.ref b :: cs) = some false := by
  unfold PySem.W.kitAny
  rw [h]
  exact t
end
/-- a comprehension that changes nothing, item by item -/
theorem lcR_map {α : Type} {pt : Pt} {te : DTE} {ρ : Rho} {fin : List D → Mu → Prop} {μ : Mu} {xs : List α} {g : α → D} (f : α → D) (hz : xs.length ≤ sizeLine)
    (h : ∀ x ∈ xs, ∀ Q : DQ, Q (f x) μ → pt.at (g x) ρ fun ρ2 => te ρ2 μ Q never) (hf : fin (xs.map f) μ) : lcR pt dYes te ρ fin (xs.map g) [] μ := by
  have key : ∀ (ys zs : List α), zs ++ ys = xs → lcR pt dYes te ρ fin (ys.map g) (zs.map f) μ := by
    intro ys
    induction ys with
    | nil => intro zs e; rw [List.append_nil] at e; subst e; exact hf
    | cons y ys ih =>
      intro zs e
      have hl : zs.length < sizeLine := by
        have := congrArg List.length e
        simp at this; omega
      have hy : y ∈ xs := by rw [← e]; simp
      show pt.at (g y) ρ fun ρ2 => dYes ρ2 μ (fun b μ2 => if b = true then te ρ2 μ2 (fun y μ3 => (zs.map f).length < sizeLine ∧ lcR pt dYes te ρ fin (ys.map g) (zs.map f ++ [y]) μ3) never else lcR pt dYes te ρ fin (ys.map g) (zs.map f) μ2) never
      have := h y hy (fun d μ3 => (zs.map f).length < sizeLine ∧ lcR pt dYes te ρ fin (ys.map g) (zs.map f ++ [d]) μ3) ⟨by rw [List.length_map]; exact hl, by
        have := ih (zs ++ [y]) (by rw [← e]; simp)
        rwa [List.map_append] at this⟩
      simpa only [dYes, if_true] using this
  exact key xs [] rfl
theorem asL_set {μ : Mu} {i : Nat} {ds : List D} (hi : i < μ.length) : asL (μ.set i (.lst ds)) (.cell i) = some ds := asL_get (by simp [hi])
theorem get_set {μ : Mu} {i : Nat} {m : MO} (hi : i < μ.length) : (μ.set i m)[i]? = some m := by simp [hi]
theorem set_set {μ : Mu} {i : Nat} {m m' : MO} : (μ.set i m).set i m' = μ.set i m' := by simp
theorem vInt_bl {b : Bool} {μ : Mu} {q : QR} : vInt [.bl b] μ q ↔ q (.val (.int (if b then 1 else 0))) μ := by
  constructor
  · rintro (⟨i, e, h⟩ | ⟨c, e, h⟩)
    · cases e
    · cases e; exact h
  · exact fun h => .inr ⟨b, rfl, h⟩
theorem vInt_int {b : Int} {μ : Mu} {q : QR} : vInt [.int b] μ q ↔ q (.val (.int b)) μ := by
  constructor
  · rintro (⟨i, e, h⟩ | ⟨c, e, h⟩)
    · cases e; exact h
    · cases e
  · exact fun h => .inl ⟨b, rfl, h⟩
/-- a comprehension with a test, that changes nothing -/
theorem lcR_filter {α : Type} {pt : Pt} {tt : DTT} {te : DTE} {ρ : Rho} {fin : List D → Mu → Prop} {μ : Mu} {xs : List α} {g : α → D} (p : α → Bool) (f : α → D) (hz : xs.length ≤ sizeLine)
    (h : ∀ x ∈ xs, ∀ (Kt : DQ) (Kf : Mu → Prop), (p x = true → Kt (f x) μ) → (p x = false → Kf μ) → pt.at (g x) ρ fun ρ2 => tt ρ2 μ (fun b μ2 => if b = true then te ρ2 μ2 Kt never else Kf μ2) never)
    (hf : fin ((xs.filter p).map f) μ) : lcR pt tt te ρ fin (xs.map g) [] μ := by
  have key : ∀ (ys zs : List α), zs ++ ys = xs → lcR pt tt te ρ fin (ys.map g) ((zs.filter p).map f) μ := by
    intro ys
    induction ys with
    | nil => intro zs e; rw [List.append_nil] at e; subst e; exact hf
    | cons y ys ih =>
      intro zs e
      have hl : ((zs.filter p).map f).length < sizeLine := by
        have := congrArg List.length e
        have h2 := List.length_filter_le p zs
        simp at this
        rw [List.length_map]; omega
      have hy : y ∈ xs := by rw [← e]; simp
      have h3 := ih (zs ++ [y]) (by rw [← e]; simp)
      rw [List.filter_append] at h3
      refine h y hy (fun d μ3 => ((zs.filter p).map f).length < sizeLine ∧ lcR pt tt te ρ fin (ys.map g) ((zs.filter p).map f ++ [d]) μ3) (fun μ3 => lcR pt tt te ρ fin (ys.map g) ((zs.filter p).map f) μ3) (fun hp => ⟨hl, ?_⟩) (fun hp => ?_)
      · simpa [List.filter_cons, hp] using h3
      · simpa [List.filter_cons, hp] using h3
  exact key xs [] rfl
theorem join0_cps : ∀ ws : List Str, (Txt.join "" ws).cps.toList = ws.flatMap fun w => w.cps.toList := by
  intro ws
  rw [show Txt.join "" ws = Str.join "" ws from StrLaws.glued_eq_join "" ws]
  induction ws with
  | nil => rfl
  | cons a r ih =>
    cases r with
    | nil => simp [Str.join]
    | cons b r =>
      show (a ++ "" ++ Str.join "" (b :: r)).cps.toList = _
      have h1 : ∀ x y : Str, (x ++ y).cps.toList = x.cps.toList ++ y.cps.toList := fun x y => by
        show (x.cps ++ y.cps).toList = _
        simp
      rw [h1, h1, ih]
      simp
      rfl
theorem cps_app (x y : Str) : (x ++ y).cps.toList = x.cps.toList ++ y.cps.toList := by
  show (x.cps ++ y.cps).toList = _
  simp
end DL

namespace LW
open PySem PySem.Spec PyProof.Rows L2 DL
def letters : Str := "abcdefghijklmnopqrstuvwxyz"
def isNameS (z : Str) : Bool := decide (1 ≤ z.length) && decide (z.length ≤ 8) && z.cps.toList.all fun c => decide (c ∈ letters.cps.toList)
def isNameD : D → Bool
  | .str z => isNameS z
  | _ => false
/-- a thing of which isinstance can be asked -/
def Kindly (μ : Mu) (d : D) : Prop := (∃ z, d = .str z ∧ z.length + 2 ≤ sizeLine) ∨ ∃ s, tyD μ d = some s ∧ kitB s "str" = some false ∧ (∀ z, d ≠ .str z)
def tupD (m : List Str) : D := .tup (m.map .str)
def rowsS (z : Str) : List (List Str) := (Txt.split z "\n").map fun r => Txt.split r " "
def rowsD (z : Str) : D := .lst ((rowsS z).map fun r => .lst (r.map .str))
def movesS (ms : List (List Str)) : Str := Txt.join "\n" (ms.map fun m => Txt.join " " m)
def wordsOk (r : List Str) : Bool := decide (r.length = 3) && r.all isNameS
def readM (z : Str) : Option (List (List Str)) := if z = "" then some [] else if (rowsS z).all wordsOk then some (rowsS z) else none
theorem cl_strs {n : Nat} {m : List Str} : D.clL n (m.map D.str) = true := clL_iff.mpr (by simp [D.cl])
theorem cl_tupD {n : Nat} {m : List Str} : D.cl n (tupD m) = true := by unfold tupD; rw [D.cl]; exact cl_strs
theorem cl_tups {n : Nat} {ms : List (List Str)} : D.clL n (ms.map tupD) = true := clL_iff.mpr (by
  intro d hd
  obtain ⟨m, _, rfl⟩ := List.mem_map.mp hd
  exact cl_tupD)
theorem bls_of {α : Type} {xs : List α} {p : α → Bool} : blsD (xs.map fun x => D.bl (p x)) = some (xs.map p) := by
  have := blsD_map (xs.map p)
  rwa [List.map_map] at this
theorem rows_len {z : Str} : (rowsS z).length ≤ z.length + 2 := by unfold rowsS; rw [List.length_map]; exact split_le z "\n"
theorem rows_part {z : Str} {r : List Str} (h : r ∈ rowsS z) : r.length ≤ z.length + 2 ∧ ∀ w ∈ r, w.length ≤ z.length := by
  unfold rowsS at h
  obtain ⟨x, hx, rfl⟩ := List.mem_map.mp h
  have h1 : x.length ≤ z.length := part_short hx
  exact ⟨Nat.le_trans (split_le x " ") (by omega), fun w hw => Nat.le_trans (part_short hw) h1⟩
theorem sum_le {l : List Str} {B : Nat} (h : ∀ w ∈ l, w.length ≤ B) : (l.map (·.length)).sum ≤ l.length * B := by
  induction l with
  | nil => simp
  | cons a l ih =>
    have h1 := h a List.mem_cons_self
    have h2 := ih fun w hw => h w (List.mem_cons_of_mem _ hw)
    simp only [List.map_cons, List.sum_cons, List.length_cons, Nat.succ_mul]
    omega
theorem split_part {z y a : Str} (h : a ∈ Txt.split z y) : a.length ≤ z.length := part_short h
theorem strOk_iff {x : Str} : PyData.strOk x = true ↔ ∀ c ∈ x.cps.toList, c < 1114112 := by
  unfold PyData.strOk
  rw [← Array.all_toList, List.all_eq_true]
  exact ⟨fun h c hc => of_decide_eq_true (h c hc), fun h c hc => decide_eq_true (h c hc)⟩
theorem strOk_app {x y : Str} (hx : PyData.strOk x = true) (hy : PyData.strOk y = true) : PyData.strOk (x ++ y) = true := by
  rw [strOk_iff] at hx hy ⊢
  intro c hc
  rw [cps_app] at hc
  rcases List.mem_append.mp hc with h | h
  · exact hx c h
  · exact hy c h
theorem strOk_cut {x : Str} {lo hi : Option Int} (hx : PyData.strOk x = true) : PyData.strOk (cutS x lo hi) = true := by
  rw [strOk_iff] at hx ⊢
  intro c hc
  have : c ∈ ((x.cps.toList.drop (HT.sIx x.length 0 lo)).take (HT.sIx x.length x.length hi - HT.sIx x.length 0 lo)) := by simpa [cutS] using hc
  exact hx c (List.mem_of_mem_drop (List.mem_of_mem_take this))
theorem split_mem {z y w : Str} {c : Nat} (hw : w ∈ Txt.split z y) (hc : c ∈ w.cps.toList) : c ∈ z.cps.toList := by
  rw [← StrLaws.join_split z y]
  exact (PyProof.Rows.mem_join _ _ _).mpr (.inl ⟨w, hw, hc⟩)
theorem letters_ok : ∀ c ∈ letters.cps.toList, c < 1114112 := by decide
theorem name_ok {w : Str} (h : isNameS w = true) : PyData.strOk w = true := by
  unfold isNameS at h
  simp only [Bool.and_eq_true, List.all_eq_true, decide_eq_true_eq] at h
  exact strOk_iff.mpr fun c hc => letters_ok c (h.2 c hc)
theorem all_len {ws : List Str} : wordsOk ws = (decide (ws.length = 3) && (ws.all (fun w => decide (1 ≤ w.length) && decide (w.length ≤ 8)) && (ws.flatMap fun w => w.cps.toList).all fun c => decide (c ∈ letters.cps.toList))) := by
  unfold wordsOk
  congr 1
  rw [List.all_flatMap, Bool.eq_iff_iff]
  simp only [Bool.and_eq_true, List.all_eq_true, isNameS, decide_eq_true_eq]
  constructor
  · exact fun h => ⟨fun w hw => (h w hw).1, fun w hw => (h w hw).2⟩
  · exact fun h w hw => ⟨h.1 w hw, h.2 w hw⟩
def S3 (a b c : Int) : MO := .lst [.int a, .int b, .int c]
def WOk (ms : List (List Str)) : Prop := ∀ m ∈ ms, wordsOk m = true
theorem wordsOk_iff {m : List Str} : wordsOk m = true ↔ m.length = 3 ∧ ∀ w ∈ m, isNameS w = true := by
  unfold wordsOk
  rw [Bool.and_eq_true, decide_eq_true_iff, List.all_eq_true]
theorem name_len {w : Str} (h : isNameS w = true) : w.length ≤ 8 := by
  unfold isNameS at h
  simp only [Bool.and_eq_true, decide_eq_true_eq] at h
  exact h.1.2
theorem name_sign {w : Str} (h : isNameS w = true) {c : Nat} (hc : c ∈ w.cps.toList) : c ∈ letters.cps.toList := by
  unfold isNameS at h
  simp only [Bool.and_eq_true, List.all_eq_true, decide_eq_true_eq] at h
  exact h.2 c hc
theorem ok_tups {ms : List (List Str)} (h : WOk ms) : D.ok 64 (.lst (ms.map tupD)) = true := by
  show D.okL 63 _ = true
  refine okL_map _ fun m hm => ?_
  show D.okL 62 _ = true
  refine okL_map _ fun w hw => ?_
  simp only [D.ok]
  exact name_ok ((wordsOk_iff.mp (h m hm)).2 w hw)
theorem deq_tups {ms ms' : List (List Str)} : deq (.lst (ms.map tupD)) (.lst (ms'.map tupD)) = decide (ms = ms') := by
  rw [deq_lst]
  refine deqL_map (fun a b => ?_) _ _
  unfold tupD
  rw [deq_tup]
  exact deqL_map (fun a b => deq_str) _ _
theorem neQ {ms : List (List Str)} (hw : WOk ms) (μ : Mu) (q : QR) (hq : q (.val (.bl false)) μ) : vNeB (.lst (ms.map tupD)) (.lst (ms.map tupD)) μ q := .inr ⟨ok_tups hw, ok_tups hw, by
  show q (.val (.bl (!deq (.lst (ms.map tupD)) (.lst (ms.map tupD))))) μ
  rw [deq_tups]; simpa using hq⟩
theorem readM_ok {z : Str} {ms : List (List Str)} (h : readM z = some ms) : WOk ms := by
  unfold readM at h
  split at h
  · cases h; exact fun m hm => nomatch hm
  · split at h
    · rename_i h2; cases h; exact List.all_eq_true.mp h2
    · cases h
theorem row_split {m : List Str} (h : wordsOk m = true) : Txt.split (Txt.join " " m) " " = m := by
  obtain ⟨h3, hw⟩ := wordsOk_iff.mp h
  refine TL.split_join (s := 32) (S := []) rfl (by decide +kernel) (by intro e; rw [e] at h3; cases h3) fun p hp hc => ?_
  exact (show ¬ (32 ∈ letters.cps.toList) by decide) (name_sign (hw p hp) hc)
theorem row_sign {m : List Str} (h : wordsOk m = true) {c : Nat} (hc : c ∈ (Txt.join " " m).cps.toList) : c ∈ letters.cps.toList ∨ c = 32 := by
  rw [show Txt.join " " m = Str.join " " m from StrLaws.glued_eq_join " " m] at hc
  rcases (PyProof.Rows.mem_join _ _ _).mp hc with ⟨w, hw, hc⟩ | ⟨_, hc⟩
  · exact .inl (name_sign ((wordsOk_iff.mp h).2 w hw) hc)
  · right
    have : c ∈ [32] := hc
    simpa using this
theorem moves_split {ms : List (List Str)} (h : WOk ms) (hne : ms ≠ []) : Txt.split (movesS ms) "\n" = ms.map fun m => Txt.join " " m := by
  refine TL.split_join (s := 10) (S := []) rfl (by decide +kernel) (by simpa using hne) fun p hp hc => ?_
  obtain ⟨m, hm, rfl⟩ := List.mem_map.mp hp
  rcases row_sign (h m hm) hc with h | h
  · exact (show ¬ (10 ∈ letters.cps.toList) by decide) h
  · cases h
theorem read_moves_back {ms : List (List Str)} (h : WOk ms) : readM (movesS ms) = some ms := by
  by_cases hne : ms = []
  · subst hne; rfl
  have hs := moves_split h hne
  have er : rowsS (movesS ms) = ms := by
    unfold rowsS
    rw [hs, List.map_map]
    have : ∀ l : List (List Str), (∀ m ∈ l, wordsOk m = true) → l.map ((fun r => Txt.split r " ") ∘ fun m => Txt.join " " m) = l := by
      intro l
      induction l with
      | nil => intro _; rfl
      | cons a l ih =>
        intro hl
        rw [List.map_cons, ih fun m hm => hl m (List.mem_cons_of_mem _ hm)]
        show Txt.split (Txt.join " " a) " " :: l = _
        rw [row_split (hl a List.mem_cons_self)]
    exact this ms h
  unfold readM
  rw [er]
  rw [if_neg, if_pos]
  · exact List.all_eq_true.mpr h
  · intro e
    rw [e] at hs
    obtain ⟨m, l, rfl⟩ : ∃ m l, ms = m :: l := by
      cases ms with
      | nil => exact absurd rfl hne
      | cons m l => exact ⟨m, l, rfl⟩
    have e2 : Txt.join " " m = "" := by
      have : Txt.split (Str.ofString "") (Str.ofString "\n") = [("" : Str)] := by decide
      rw [this, List.map_cons] at hs
      exact (List.cons.inj hs).1.symm
    have h3 := row_split (h m List.mem_cons_self)
    rw [e2] at h3
    have h4 := (wordsOk_iff.mp (h m List.mem_cons_self)).1
    rw [← h3] at h4
    exact absurd h4 (by decide)
def top (i : Nat) : Stmt := PySem.Challenge.pw_evenpieces_k74_moves_as_texts.main.body.getD i (.Pass ⟨0, 0, 0, 0⟩)
structure Adr where
  c_EvenError : Addr
  c_NoWeb : Addr
  c_NoHand : Addr
  c_NoGoods : Addr
  c_NoPiece : Addr
  c_NoStand : Addr
  c_NoMove : Addr
  c_NoText : Addr
structure Txt (K : PySem.W.Frag) (mg : Str → Option Value) (A : Adr) : Prop where
  f_is_name : TopFn K mg "is_name" (top 11) ["thing"]
  f_rows_of : TopFn K mg "rows_of" (top 13) ["text"]
  f_moves_text : TopFn K mg "moves_text" (top 14) ["moves"]
  f_read_moves : TopFn K mg "read_moves" (top 15) ["text"]
  f__law_cell_at : TopFn K mg "_law_cell_at" (top 17) ["_law_script", "_law_k"]
  f__law_digit : TopFn K mg "_law_digit" (top 18) ["_law_state", "_law_base"]
  f__law_name : TopFn K mg "_law_name" (top 19) ["_law_state"]
  f__law_found : TopFn K mg "_law_found" (top 20) ["_law_text"]
  f__law_due : TopFn K mg "_law_due" (top 21) ["_law_text"]
  f__law_spoiled : TopFn K mg "_law_spoiled" (top 22) ["_law_state", "_law_text"]
  f_law : TopFn K mg "law" (top 23) ["_law_script"]
  b_ValueError : mg "ValueError" = none
  b_all : mg "all" = none
  b_int : mg "int" = none
  b_isinstance : mg "isinstance" = none
  b_len : mg "len" = none
  b_list : mg "list" = none
  b_max : mg "max" = none
  b_min : mg "min" = none
  b_range : mg "range" = none
  b_str : mg "str" = none
  b_tuple : mg "tuple" = none
  k_LETTERS : DConst K mg "LETTERS" (.str "abcdefghijklmnopqrstuvwxyz")
  g_EvenError : mg "EvenError" = some (.ref A.c_EvenError)
  g_NoGoods : mg "NoGoods" = some (.ref A.c_NoGoods)
  g_NoHand : mg "NoHand" = some (.ref A.c_NoHand)
  g_NoMove : mg "NoMove" = some (.ref A.c_NoMove)
  g_NoPiece : mg "NoPiece" = some (.ref A.c_NoPiece)
  g_NoStand : mg "NoStand" = some (.ref A.c_NoStand)
  g_NoText : mg "NoText" = some (.ref A.c_NoText)
  g_NoWeb : mg "NoWeb" = some (.ref A.c_NoWeb)
  x_NoText : ExK K mg "NoText" A.c_NoText
  e_NoText : L2.ExcC K A.c_NoText
  exm_NoText_NoText : PySem.W.exmOne K (.ref A.c_NoText) (.ref A.c_NoText) = some true
  kit_NoText_EvenError : PySem.W.kitOne K (.ref A.c_NoText) (.ref A.c_EvenError) = some true
  kit_NoText_ValueError : PySem.W.kitOne K (.ref A.c_NoText) (.type "ValueError") = some true
  kita_NoText_NoGoods : PySem.W.kitAny K (.ref A.c_NoText) [.ref A.c_NoGoods, .ref A.c_NoHand, .ref A.c_NoMove, .ref A.c_NoPiece, .ref A.c_NoStand, .ref A.c_NoWeb] = some false
section
variable {P : Program} {w : World} {K : PySem.W.Frag} {mg : Str → Option Value} {base : Heap} {A : Adr}
abbrev s_is_name : Stmt := (top 11)
theorem sc_is_name : FnScope ["thing", "sign"] ["thing"] (defScope s_is_name) := ⟨rfl, rfl, rfl, by decide +kernel, rfl, by decide +kernel, by decide +kernel⟩
def sp_is_name (K : PySem.W.Frag) (A : Adr) : DSp := fun ds μ q _ => ∃ d, ds = [d] ∧ Kindly μ d ∧ q (.val (.bl (isNameD d))) μ
theorem ok_is_name (T : Txt K mg A) : DFn P w K mg base "is_name" 1 1 (sp_is_name K A) := dfn (k := 0) T.f_is_name sc_is_name fun f cdv AA outer s H E hr =>
  ⟨_, (dss_cons (ds_if (PW.pt (dw_or (dt_not (dt_val (ve_callB call_isi rIsi_v takesF T.b_isinstance (by decide +kernel) (da_cons (dv 0) (da_cons (de_ty (n := "str") T.b_str) da_nil))))) (dw_or1 (dt_not (dt_chain op_le op_le rI0_bl rI0_bl de_int (ve_callB call_lenU rLenU_v takesF T.b_len (by decide +kernel) (da_cons (dv 0) da_nil)) de_int))))) (dss_one (ds_ret de_bl)) dss_nil)
    (dss_one (ds_ret (ve_callB (cr_all rfl) rAll_v takesF T.b_all (by decide +kernel) (da_cons (de_lc (own := [("sign", 1)]) (pt := (.nm 1)) rfl sc_is_name.nd (di_str (dv 0)) (blkOk_by (own := [("sign", 1)]) (N := ["thing", "sign"]) (sc := defScope s_is_name) (by decide +kernel)) (by decide) (fun _ _ _ _ _ => (pg_name (i := 1) sc_is_name.nd rfl (Or.inl rfl))) (fun _ _ _ _ _ => dts_nil) (fun _ _ _ _ _ => (ve_cmp (op_inU (hu65 hr)) rInU_v (dv 1) (de_const T.k_LETTERS)))) da_nil))))), fun ds μ qr Ex wf h => by
    obtain ⟨d, rfl, ht, h⟩ := h
    simp only [bx_K, bx_P, bx_w, bx_mg, bx_base, dFnv, dCallL, dVar, dC, dK, dNil, dCons, dOp, dUn, dCB, dB, dNot, dAnd, dOr, dAndV, dOrV, dNotV, dIf, dChain, dNext, dSeq, dGh, dDrop, dRet, dRetN, dIfS, dBreak, dCont, hName, hNil, hCons, hTup, dAsg, dTup, dLst, dLstC, dCallG, vOp, vUn, vCB, vI, vIc, diL, diT, diR1, diR2, diLK, diS, dFor, dLc, dLcC, dYes, dPar, dDnewC, dDnew, dSl, dNoPart, dPart, dM1, vSplit, vJoin, dCM, vAppend, vExtend, vClear, vPop, vRev, hSubL, dRaise, vIx_str, vIx_tup, vIx_lst, vIx_lsk, vIx_cell, vAdd_int, vAdd_str, vAdd_ll, vAdd_lc, vAdd_cl, vAdd_cc, vLen_str, vLen_lst, vLen_lsk, vLen_tup, vLen_cell, asX_cell, asS_cell, asL_lst, asL_lsk, asX_lst, asS_lst, asS_lsk, asS_tup, vEqB_str, vEqB_int, vNeB_str, vNeB_int, vIsB, vI1, vI2, vAll, vAny, vSum, vIsi, vSlL, vSlS, resF, resC, startD, DEnds.of, List.map_cons, List.map_nil, List.length_cons, List.length_nil, List.replicate, List.cons_append, List.nil_append, List.append_nil, List.getElem?_cons_zero, List.getElem?_cons_succ, List.set_cons_zero, List.set_cons_succ, List.getElem?_nil, List.set_nil, Nat.reduceAdd, Nat.reduceSub, Nat.zero_add, Nat.sub_zero, Option.some.injEq, exists_eq_left', exists_eq_left, exists_and_left, exists_eq_right, true_and, and_true, D.str.injEq, D.int.injEq, D.bl.injEq, D.lst.injEq, D.tup.injEq, D.cell.injEq, D.dic.injEq, D.lsk.injEq, D.ty.injEq, D.ref.injEq, MO.lst.injEq, MO.dic.injEq, MO.dit.injEq, MO.ins.injEq, List.cons.injEq, reduceCtorEq, false_and, and_false, exists_false, or_false, false_or, if_true, if_false, ite_true, ite_false, Bool.false_eq_true, and_assoc, exists_const, exists_prop]
    rcases ht with ⟨z, rfl, hz⟩ | ⟨s, hs, hk, hno⟩
    · refine ⟨"str", rfl, true, rfl, ?_⟩
      simp only [resF, resC, vIx_str, vIx_tup, vIx_lst, vIx_lsk, vIx_cell, vAdd_int, vAdd_str, vAdd_ll, vAdd_lc, vAdd_cl, vAdd_cc, vLen_str, vLen_lst, vLen_lsk, vLen_tup, vLen_cell, asX_cell, asS_cell, asL_lst, asL_lsk, asX_lst, asS_lst, asS_lsk, asS_tup, vEqB_str, vEqB_int, vNeB_str, vNeB_int, D.str.injEq, D.int.injEq, D.bl.injEq, D.lst.injEq, D.tup.injEq, D.cell.injEq, D.ref.injEq, MO.lst.injEq, List.cons.injEq, reduceCtorEq, false_and, and_false, exists_false, or_false, false_or, exists_eq_left', exists_eq_left, exists_and_left, exists_eq_right, true_and, and_true, Option.some.injEq, if_true, if_false, Bool.false_eq_true, and_assoc]
      have e : isNameD (.str z) = isNameS z := rfl
      rw [e] at h
      rw [if_neg (by decide)]
      refine ⟨by omega, ?_⟩
      by_cases h1 : 1 ≤ z.length
      · by_cases h8 : z.length ≤ 8
        · rw [if_pos (decide_eq_true (by omega)), if_neg (by simp; omega)]
          refine lcR_inv (fun k acc μ' => μ' = μ ∧ acc = (z.cps.toList.take k).map fun c => D.bl (decide (c ∈ letters.cps.toList))) ⟨rfl, rfl⟩ ?_ ?_
          · rintro k d acc μ' kk hd ⟨rfl, rfl⟩ nx
            unfold signsD at hd
            rw [List.getElem?_map] at hd
            cases e2 : z.cps.toList[k]? with
            | none => rw [e2] at hd; cases hd
            | some c =>
              rw [e2] at hd
              cases hd
              have hk := (List.getElem?_eq_some_iff.mp e2).1
              have hzl : z.cps.toList.length = z.length := Array.length_toList
              simp only [Pt.at, wipeD, List.set_cons_succ, List.set_cons_zero]
              simp only [bx_K, bx_P, bx_w, bx_mg, bx_base, dFnv, dCallL, dVar, dC, dK, dNil, dCons, dOp, dUn, dCB, dB, dNot, dAnd, dOr, dAndV, dOrV, dNotV, dIf, dChain, dNext, dSeq, dGh, dDrop, dRet, dRetN, dIfS, dBreak, dCont, hName, hNil, hCons, hTup, dAsg, dTup, dLst, dLstC, dCallG, vOp, vUn, vCB, vI, vIc, diL, diT, diR1, diR2, diLK, diS, dFor, dLc, dLcC, dYes, dPar, dDnewC, dDnew, dSl, dNoPart, dPart, dM1, vSplit, vJoin, dCM, vAppend, vExtend, vClear, vPop, vRev, hSubL, dRaise, vIx_str, vIx_tup, vIx_lst, vIx_lsk, vIx_cell, vAdd_int, vAdd_str, vAdd_ll, vAdd_lc, vAdd_cl, vAdd_cc, vLen_str, vLen_lst, vLen_lsk, vLen_tup, vLen_cell, asX_cell, asS_cell, asL_lst, asL_lsk, asX_lst, asS_lst, asS_lsk, asS_tup, vEqB_str, vEqB_int, vNeB_str, vNeB_int, vIsB, vI1, vI2, vAll, vAny, vSum, vIsi, vSlL, vSlS, resF, resC, startD, DEnds.of, List.map_cons, List.map_nil, List.length_cons, List.length_nil, List.replicate, List.cons_append, List.nil_append, List.append_nil, List.getElem?_cons_zero, List.getElem?_cons_succ, List.set_cons_zero, List.set_cons_succ, List.getElem?_nil, List.set_nil, Nat.reduceAdd, Nat.reduceSub, Nat.zero_add, Nat.sub_zero, Option.some.injEq, exists_eq_left', exists_eq_left, exists_and_left, exists_eq_right, true_and, and_true, D.str.injEq, D.int.injEq, D.bl.injEq, D.lst.injEq, D.tup.injEq, D.cell.injEq, D.dic.injEq, D.lsk.injEq, D.ty.injEq, D.ref.injEq, MO.lst.injEq, MO.dic.injEq, MO.dit.injEq, MO.ins.injEq, List.cons.injEq, reduceCtorEq, false_and, and_false, exists_false, or_false, false_or, if_true, if_false, ite_true, ite_false, Bool.false_eq_true, and_assoc, exists_const, exists_prop]
              simp only [vInU_sign]
              refine ⟨c, rfl, ?_⟩
              simp only [resF, resC, vIx_str, vIx_tup, vIx_lst, vIx_lsk, vIx_cell, vAdd_int, vAdd_str, vAdd_ll, vAdd_lc, vAdd_cl, vAdd_cc, vLen_str, vLen_lst, vLen_lsk, vLen_tup, vLen_cell, asX_cell, asS_cell, asL_lst, asL_lsk, asX_lst, asS_lst, asS_lsk, asS_tup, vEqB_str, vEqB_int, vNeB_str, vNeB_int, D.str.injEq, D.int.injEq, D.bl.injEq, D.lst.injEq, D.tup.injEq, D.cell.injEq, D.ref.injEq, MO.lst.injEq, List.cons.injEq, reduceCtorEq, false_and, and_false, exists_false, or_false, false_or, exists_eq_left', exists_eq_left, exists_and_left, exists_eq_right, true_and, and_true, Option.some.injEq, if_true, if_false, Bool.false_eq_true, and_assoc]
              refine ⟨by rw [List.length_map, List.length_take]; have : 8 < sizeLine := by decide
                         omega, nx _ _ ⟨rfl, ?_⟩⟩
              rw [List.take_succ, e2, List.map_append]
              rfl
          · rintro acc μ' ⟨rfl, rfl⟩
            rw [show (signsD z).length = z.cps.toList.length by simp [signsD], List.take_length]
            have hb : ∀ cs : List Nat, blsD (cs.map fun c => D.bl (decide (c ∈ letters.cps.toList))) = some (cs.map fun c => decide (c ∈ letters.cps.toList)) := fun cs => by
              have := blsD_map (cs.map fun c => decide (c ∈ letters.cps.toList))
              rwa [List.map_map] at this
            refine ⟨_, hb _, .same rfl ?_⟩
            have e3 : isNameS z = (z.cps.toList.map fun c => decide (c ∈ letters.cps.toList)).all id := by
              unfold isNameS
              rw [decide_eq_true h1, decide_eq_true h8, List.all_map]
              rfl
            rw [← e3]; exact h
        · rw [if_pos (decide_eq_true (by omega)), if_pos (by simp; omega)]
          have e3 : isNameS z = false := by unfold isNameS; rw [decide_eq_false h8]; simp
          rw [e3] at h; exact .same rfl h
      · rw [if_neg (by simp; omega), if_pos (by decide)]
        have e3 : isNameS z = false := by unfold isNameS; rw [decide_eq_false h1]; rfl
        rw [e3] at h; exact .same rfl h
    · refine ⟨s, hs, false, hk, ?_⟩
      rw [if_pos (by decide)]
      have e3 : isNameD d = false := by
        cases d with
        | str z => exact absurd rfl (hno z)
        | _ => rfl
      rw [e3] at h; exact .same rfl h⟩
abbrev s_rows_of : Stmt := (top 13)
theorem sc_rows_of : FnScope ["text", "row"] ["text"] (defScope s_rows_of) := ⟨rfl, rfl, rfl, by decide +kernel, rfl, by decide +kernel, by decide +kernel⟩
def sp_rows_of (K : PySem.W.Frag) (A : Adr) : DSp := fun ds μ q Ex => ∃ d, ds = [d] ∧ ((∃ z, d = .str z ∧ z.length + 2 ≤ sizeLine ∧ q (.val (rowsD z)) μ) ∨ ∃ s, tyD μ d = some s ∧ kitB s "str" = some false ∧ Ex ⟨.ref A.c_NoText, none⟩ μ)
theorem ok_rows_of (T : Txt K mg A) : DFn P w K mg base "rows_of" 1 1 (sp_rows_of K A) := dfn (k := 0) T.f_rows_of sc_rows_of fun f cdv AA outer s H E hr =>
  ⟨_, (dss_cons (ds_if (dt_not (dt_val (ve_callB call_isi rIsi_v takesF T.b_isinstance (by decide +kernel) (da_cons (dv 0) (da_cons (de_ty (n := "str") T.b_str) da_nil))))) (dss_one (ds_raise rfl (takes_of rfl rfl rfl rfl) T.x_NoText)) dss_nil)
    (dss_one (ds_ret (de_lc (own := [("row", 1)]) (pt := (.nm 1)) rfl sc_rows_of.nd (di_list (de_m1 PySem.F.slot_str_split PySem.F.type_str_split mt_split rSplit_v takesF (dv 0) de_str)) (blkOk_by (own := [("row", 1)]) (N := ["text", "row"]) (sc := defScope s_rows_of) (by decide +kernel)) (by decide) (fun _ _ _ _ _ => (pg_name (i := 1) sc_rows_of.nd rfl (Or.inl rfl))) (fun _ _ _ _ _ => dts_nil) (fun _ _ _ _ _ => (de_m1 PySem.F.slot_str_split PySem.F.type_str_split mt_split rSplit_v takesF (dv 1) de_str)))))), fun ds μ qr Ex wf h => by
    obtain ⟨d, rfl, h⟩ := h
    simp only [bx_K, bx_P, bx_w, bx_mg, bx_base, dFnv, dCallL, dVar, dC, dK, dNil, dCons, dOp, dUn, dCB, dB, dNot, dAnd, dOr, dAndV, dOrV, dNotV, dIf, dChain, dNext, dSeq, dGh, dDrop, dRet, dRetN, dIfS, dBreak, dCont, hName, hNil, hCons, hTup, dAsg, dTup, dLst, dLstC, dCallG, vOp, vUn, vCB, vI, vIc, diL, diT, diR1, diR2, diLK, diS, dFor, dLc, dLcC, dYes, dPar, dDnewC, dDnew, dSl, dNoPart, dPart, dM1, vSplit, vJoin, dCM, vAppend, vExtend, vClear, vPop, vRev, hSubL, dRaise, vIx_str, vIx_tup, vIx_lst, vIx_lsk, vIx_cell, vAdd_int, vAdd_str, vAdd_ll, vAdd_lc, vAdd_cl, vAdd_cc, vLen_str, vLen_lst, vLen_lsk, vLen_tup, vLen_cell, asX_cell, asS_cell, asL_lst, asL_lsk, asX_lst, asS_lst, asS_lsk, asS_tup, vEqB_str, vEqB_int, vNeB_str, vNeB_int, vIsB, vI1, vI2, vAll, vAny, vSum, vIsi, vSlL, vSlS, resF, resC, startD, DEnds.of, List.map_cons, List.map_nil, List.length_cons, List.length_nil, List.replicate, List.cons_append, List.nil_append, List.append_nil, List.getElem?_cons_zero, List.getElem?_cons_succ, List.set_cons_zero, List.set_cons_succ, List.getElem?_nil, List.set_nil, Nat.reduceAdd, Nat.reduceSub, Nat.zero_add, Nat.sub_zero, Option.some.injEq, exists_eq_left', exists_eq_left, exists_and_left, exists_eq_right, true_and, and_true, D.str.injEq, D.int.injEq, D.bl.injEq, D.lst.injEq, D.tup.injEq, D.cell.injEq, D.dic.injEq, D.lsk.injEq, D.ty.injEq, D.ref.injEq, MO.lst.injEq, MO.dic.injEq, MO.dit.injEq, MO.ins.injEq, List.cons.injEq, reduceCtorEq, false_and, and_false, exists_false, or_false, false_or, if_true, if_false, ite_true, ite_false, Bool.false_eq_true, and_assoc, exists_const, exists_prop]
    rcases h with ⟨z, rfl, hz, h⟩ | ⟨s, hs, hk, h⟩
    · refine ⟨"str", rfl, true, rfl, ?_⟩
      rw [if_neg (by decide)]
      refine ⟨⟨z, rfl⟩, z, rfl, rfl, hz, ?_⟩
      have hl := split_le z "\n"
      refine lcR_map (fun r => D.lst ((Txt.split r " ").map .str)) (by omega) (fun r hr Q hq => ?_) ?_
      · have := split_part hr
        simp only [Pt.at, wipeD, List.set_cons_succ, List.set_cons_zero]
        simp only [bx_K, bx_P, bx_w, bx_mg, bx_base, dFnv, dCallL, dVar, dC, dK, dNil, dCons, dOp, dUn, dCB, dB, dNot, dAnd, dOr, dAndV, dOrV, dNotV, dIf, dChain, dNext, dSeq, dGh, dDrop, dRet, dRetN, dIfS, dBreak, dCont, hName, hNil, hCons, hTup, dAsg, dTup, dLst, dLstC, dCallG, vOp, vUn, vCB, vI, vIc, diL, diT, diR1, diR2, diLK, diS, dFor, dLc, dLcC, dYes, dPar, dDnewC, dDnew, dSl, dNoPart, dPart, dM1, vSplit, vJoin, dCM, vAppend, vExtend, vClear, vPop, vRev, hSubL, dRaise, vIx_str, vIx_tup, vIx_lst, vIx_lsk, vIx_cell, vAdd_int, vAdd_str, vAdd_ll, vAdd_lc, vAdd_cl, vAdd_cc, vLen_str, vLen_lst, vLen_lsk, vLen_tup, vLen_cell, asX_cell, asS_cell, asL_lst, asL_lsk, asX_lst, asS_lst, asS_lsk, asS_tup, vEqB_str, vEqB_int, vNeB_str, vNeB_int, vIsB, vI1, vI2, vAll, vAny, vSum, vIsi, vSlL, vSlS, resF, resC, startD, DEnds.of, List.map_cons, List.map_nil, List.length_cons, List.length_nil, List.replicate, List.cons_append, List.nil_append, List.append_nil, List.getElem?_cons_zero, List.getElem?_cons_succ, List.set_cons_zero, List.set_cons_succ, List.getElem?_nil, List.set_nil, Nat.reduceAdd, Nat.reduceSub, Nat.zero_add, Nat.sub_zero, Option.some.injEq, exists_eq_left', exists_eq_left, exists_and_left, exists_eq_right, true_and, and_true, D.str.injEq, D.int.injEq, D.bl.injEq, D.lst.injEq, D.tup.injEq, D.cell.injEq, D.dic.injEq, D.lsk.injEq, D.ty.injEq, D.ref.injEq, MO.lst.injEq, MO.dic.injEq, MO.dit.injEq, MO.ins.injEq, List.cons.injEq, reduceCtorEq, false_and, and_false, exists_false, or_false, false_or, if_true, if_false, ite_true, ite_false, Bool.false_eq_true, and_assoc, exists_const, exists_prop]
        exact ⟨⟨r, rfl⟩, rfl, by omega, hq⟩
      · refine .same rfl ?_
        have e : rowsD z = D.lst ((Txt.split z "\n").map fun r => D.lst ((Txt.split r " ").map .str)) := by
          unfold rowsD rowsS; rw [List.map_map]; rfl
        rw [← e]; exact h
    · refine ⟨s, hs, false, hk, ?_⟩
      rw [if_pos (by decide)]
      exact .same rfl h⟩
abbrev s_moves_text : Stmt := (top 14)
theorem sc_moves_text : FnScope ["moves", "move"] ["moves"] (defScope s_moves_text) := ⟨rfl, rfl, rfl, by decide +kernel, rfl, by decide +kernel, by decide +kernel⟩
def sp_moves_text (K : PySem.W.Frag) (A : Adr) : DSp := fun ds μ q Ex => ∃ ms : List (List Str), ds = [.lst (ms.map tupD)] ∧ ms.length ≤ 100 ∧ (∀ m ∈ ms, m.length ≤ 100 ∧ ∀ w ∈ m, w.length ≤ 100) ∧ q (.val (.str (movesS ms))) μ
theorem ok_moves_text (T : Txt K mg A) : DFn P w K mg base "moves_text" 1 1 (sp_moves_text K A) := dfn (k := 0) T.f_moves_text sc_moves_text fun f cdv AA outer s H E hr =>
  ⟨_, (dss_one (ds_ret (de_m1 PySem.F.slot_str_join PySem.F.type_str_join mt_join rJoin_v takesF de_str (de_lc (own := [("move", 1)]) (pt := (.nm 1)) rfl sc_moves_text.nd (di_list (dv 0)) (blkOk_by (own := [("move", 1)]) (N := ["moves", "move"]) (sc := defScope s_moves_text) (by decide +kernel)) (by decide) (fun _ _ _ _ _ => (pg_name (i := 1) sc_moves_text.nd rfl (Or.inl rfl))) (fun _ _ _ _ _ => dts_nil) (fun _ _ _ _ _ => (de_m1 PySem.F.slot_str_join PySem.F.type_str_join mt_join rJoin_v takesF de_str (ve_callTy call_list_of rList_v takesF T.b_list (by decide +kernel) (da_cons (dv 1) da_nil)))))))), fun ds μ qr Ex wf h => by
    obtain ⟨ms, rfl, hm, hw, h⟩ := h
    have hL : 1000000 ≤ sizeLine := by decide
    simp only [bx_K, bx_P, bx_w, bx_mg, bx_base, dFnv, dCallL, dVar, dC, dK, dNil, dCons, dOp, dUn, dCB, dB, dNot, dAnd, dOr, dAndV, dOrV, dNotV, dIf, dChain, dNext, dSeq, dGh, dDrop, dRet, dRetN, dIfS, dBreak, dCont, hName, hNil, hCons, hTup, dAsg, dTup, dLst, dLstC, dCallG, vOp, vUn, vCB, vI, vIc, diL, diT, diR1, diR2, diLK, diS, dFor, dLc, dLcC, dYes, dPar, dDnewC, dDnew, dSl, dNoPart, dPart, dM1, vSplit, vJoin, dCM, vAppend, vExtend, vClear, vPop, vRev, hSubL, dRaise, vIx_str, vIx_tup, vIx_lst, vIx_lsk, vIx_cell, vAdd_int, vAdd_str, vAdd_ll, vAdd_lc, vAdd_cl, vAdd_cc, vLen_str, vLen_lst, vLen_lsk, vLen_tup, vLen_cell, asX_cell, asS_cell, asL_lst, asL_lsk, asX_lst, asS_lst, asS_lsk, asS_tup, vEqB_str, vEqB_int, vNeB_str, vNeB_int, vIsB, vI1, vI2, vAll, vAny, vSum, vIsi, vSlL, vSlS, resF, resC, startD, DEnds.of, List.map_cons, List.map_nil, List.length_cons, List.length_nil, List.replicate, List.cons_append, List.nil_append, List.append_nil, List.getElem?_cons_zero, List.getElem?_cons_succ, List.set_cons_zero, List.set_cons_succ, List.getElem?_nil, List.set_nil, Nat.reduceAdd, Nat.reduceSub, Nat.zero_add, Nat.sub_zero, Option.some.injEq, exists_eq_left', exists_eq_left, exists_and_left, exists_eq_right, true_and, and_true, D.str.injEq, D.int.injEq, D.bl.injEq, D.lst.injEq, D.tup.injEq, D.cell.injEq, D.dic.injEq, D.lsk.injEq, D.ty.injEq, D.ref.injEq, MO.lst.injEq, MO.dic.injEq, MO.dit.injEq, MO.ins.injEq, List.cons.injEq, reduceCtorEq, false_and, and_false, exists_false, or_false, false_or, if_true, if_false, ite_true, ite_false, Bool.false_eq_true, and_assoc, exists_const, exists_prop]
    refine ⟨⟨_, rfl⟩, lcR_map (fun m => D.str (Txt.join " " m)) (by omega) (fun m hr Q hq => ?_) ?_⟩
    · obtain ⟨h1, h2⟩ := hw m hr
      have h3 := sum_le (l := m) (B := 100) h2
      simp only [Pt.at, wipeD, List.set_cons_succ, List.set_cons_zero]
      simp only [bx_K, bx_P, bx_w, bx_mg, bx_base, dFnv, dCallL, dVar, dC, dK, dNil, dCons, dOp, dUn, dCB, dB, dNot, dAnd, dOr, dAndV, dOrV, dNotV, dIf, dChain, dNext, dSeq, dGh, dDrop, dRet, dRetN, dIfS, dBreak, dCont, hName, hNil, hCons, hTup, dAsg, dTup, dLst, dLstC, dCallG, vOp, vUn, vCB, vI, vIc, diL, diT, diR1, diR2, diLK, diS, dFor, dLc, dLcC, dYes, dPar, dDnewC, dDnew, dSl, dNoPart, dPart, dM1, vSplit, vJoin, dCM, vAppend, vExtend, vClear, vPop, vRev, hSubL, dRaise, vIx_str, vIx_tup, vIx_lst, vIx_lsk, vIx_cell, vAdd_int, vAdd_str, vAdd_ll, vAdd_lc, vAdd_cl, vAdd_cc, vLen_str, vLen_lst, vLen_lsk, vLen_tup, vLen_cell, asX_cell, asS_cell, asL_lst, asL_lsk, asX_lst, asS_lst, asS_lsk, asS_tup, vEqB_str, vEqB_int, vNeB_str, vNeB_int, vIsB, vI1, vI2, vAll, vAny, vSum, vIsi, vSlL, vSlS, resF, resC, startD, DEnds.of, List.map_cons, List.map_nil, List.length_cons, List.length_nil, List.replicate, List.cons_append, List.nil_append, List.append_nil, List.getElem?_cons_zero, List.getElem?_cons_succ, List.set_cons_zero, List.set_cons_succ, List.getElem?_nil, List.set_nil, Nat.reduceAdd, Nat.reduceSub, Nat.zero_add, Nat.sub_zero, Option.some.injEq, exists_eq_left', exists_eq_left, exists_and_left, exists_eq_right, true_and, and_true, D.str.injEq, D.int.injEq, D.bl.injEq, D.lst.injEq, D.tup.injEq, D.cell.injEq, D.dic.injEq, D.lsk.injEq, D.ty.injEq, D.ref.injEq, MO.lst.injEq, MO.dic.injEq, MO.dit.injEq, MO.ins.injEq, List.cons.injEq, reduceCtorEq, false_and, and_false, exists_false, or_false, false_or, if_true, if_false, ite_true, ite_false, Bool.false_eq_true, and_assoc, exists_const, exists_prop]
      refine ⟨⟨_, rfl⟩, ?_⟩
      simp only [tupD, vList]
      simp only [resF, resC, vIx_str, vIx_tup, vIx_lst, vIx_lsk, vIx_cell, vAdd_int, vAdd_str, vAdd_ll, vAdd_lc, vAdd_cl, vAdd_cc, vLen_str, vLen_lst, vLen_lsk, vLen_tup, vLen_cell, asX_cell, asS_cell, asL_lst, asL_lsk, asX_lst, asS_lst, asS_lsk, asS_tup, vEqB_str, vEqB_int, vNeB_str, vNeB_int, D.str.injEq, D.int.injEq, D.bl.injEq, D.lst.injEq, D.tup.injEq, D.cell.injEq, D.ref.injEq, MO.lst.injEq, List.cons.injEq, reduceCtorEq, false_and, and_false, exists_false, or_false, false_or, exists_eq_left', exists_eq_left, exists_and_left, exists_eq_right, true_and, and_true, Option.some.injEq, if_true, if_false, Bool.false_eq_true, and_assoc]
      refine ⟨m, strsD_map m, ?_, hq⟩
      have := (wt_join (l := m) (sep := (" " : Str)) rfl).1
      unfold wt at this
      omega
    · have e : ms.map (fun m => D.str (Txt.join " " m)) = (ms.map fun m => Txt.join " " m).map D.str := by rw [List.map_map]; rfl
      rw [e]
      refine ⟨_, strsD_map _, ?_, .same rfl h⟩
      rw [(wt_join (l := ms.map fun m => Txt.join " " m) (sep := ("\n" : Str)) rfl).1]
      have := sum_le (l := ms.map fun m => Txt.join " " m) (B := 20100) (by
        intro z hz
        obtain ⟨m, hm, rfl⟩ := List.mem_map.mp hz
        obtain ⟨h1, h2⟩ := hw m hm
        have h3 := sum_le (l := m) (B := 100) h2
        have := (wt_join (l := m) (sep := (" " : Str)) rfl).2
        unfold wt at this
        omega)
      rw [List.length_map] at this
      unfold wt
      rw [List.length_map]
      have h9 : ms.length * 20100 ≤ 100 * 20100 := Nat.mul_le_mul_right _ hm
      omega⟩
abbrev s_read_moves : Stmt := (top 15)
theorem sc_read_moves : FnScope ["text", "rows", "words", "word"] ["text"] (defScope s_read_moves) := ⟨rfl, rfl, rfl, by decide +kernel, rfl, by decide +kernel, by decide +kernel⟩
def sp_read_moves (K : PySem.W.Frag) (A : Adr) : DSp := fun ds μ q Ex => ∃ d, ds = [d] ∧ ((∃ z, d = .str z ∧ z.length + 2 ≤ sizeLine ∧ (∀ ms, readM z = some ms → q (.fresh (.lst (ms.map tupD))) μ) ∧ (readM z = none → Ex ⟨.ref A.c_NoText, none⟩ μ)) ∨
  ∃ s, tyD μ d = some s ∧ kitB s "str" = some false ∧ (∀ q : QR, q (.val (.bl false)) μ → vEqB d (.str "") μ q) ∧ Ex ⟨.ref A.c_NoText, none⟩ μ)
theorem ok_read_moves (T : Txt K mg A) : DFn P w K mg base "read_moves" 2 1 (sp_read_moves K A) := dfn (k := 1) T.f_read_moves sc_read_moves fun f cdv AA outer s H E hr =>
  ⟨_, (dss_cons (ds_if (vt_cmp (op_eqB hr.units) rEqB_v (dv 0) de_str) (dss_one (ds_ret (de_lstC da_nil))) dss_nil)
    (dss_cons (ds_set (i := 1) sc_read_moves.nd rfl (Or.inl rfl) (de_callG takesF (ok_rows_of T) (hr.mono (by decide)) (takes_of rfl rfl rfl rfl) (da_cons (dv 0) da_nil)))
    (dss_cons (ds_if (dt_not (dt_val (ve_callB (cr_all rfl) rAll_v takesF T.b_all (by decide +kernel) (da_cons (de_lc (own := [("words", 2)]) (pt := (.nm 2)) rfl sc_read_moves.nd (di_list (dv 1)) (blkOk_by (own := [("words", 2)]) (N := ["text", "rows", "words", "word"]) (sc := defScope s_read_moves) (by decide +kernel)) (by decide) (fun _ _ _ _ _ => (pg_name (i := 2) sc_read_moves.nd rfl (Or.inl rfl))) (fun _ _ _ _ _ => dts_nil) (fun _ _ _ _ _ => (de_and (ve_cmp (op_eqB hr.units) rEqB_v (ve_callB call_lenU rLenU_v takesF T.b_len (by decide +kernel) (da_cons (dv 2) da_nil)) de_int) (de_one (ve_callB (cr_all rfl) rAll_v takesF T.b_all (by decide +kernel) (da_cons (de_lc (own := [("word", 3)]) (pt := (.nm 3)) rfl sc_read_moves.nd (di_list (dv 2)) (blkOk_by (own := [("word", 3)]) (by rfl)) (by decide) (fun _ _ _ _ _ => (pg_name (i := 3) sc_read_moves.nd rfl (Or.inl rfl))) (fun _ _ _ _ _ => dts_nil) (fun _ _ _ _ _ => (de_callG takesF (ok_is_name T) (hr.mono (by decide)) takes0 (da_cons (dv 3) da_nil)))) da_nil)))))) da_nil)))) (dss_one (ds_raise rfl (takes_of rfl rfl rfl rfl) T.x_NoText)) dss_nil)
    (dss_one (ds_ret (de_lcC (own := [("words", 2)]) (pt := (.nm 2)) rfl sc_read_moves.nd (di_list (dv 1)) (blkOk_by (own := [("words", 2)]) (N := ["text", "rows", "words", "word"]) (sc := defScope s_read_moves) (by decide +kernel)) (by decide) (fun _ _ _ _ _ => (pg_name (i := 2) sc_read_moves.nd rfl (Or.inl rfl))) (fun _ _ _ _ _ => dts_nil) (fun _ _ _ _ _ => (ve_callTy call_tuple_of rTuple_v takesF T.b_tuple (by decide +kernel) (da_cons (dv 2) da_nil))))))))), fun ds μ qr Ex wf h => by
    obtain ⟨d, rfl, h⟩ := h
    simp only [bx_K, bx_P, bx_w, bx_mg, bx_base, dFnv, dCallL, dVar, dC, dK, dNil, dCons, dOp, dUn, dCB, dB, dNot, dAnd, dOr, dAndV, dOrV, dNotV, dIf, dChain, dNext, dSeq, dGh, dDrop, dRet, dRetN, dIfS, dBreak, dCont, hName, hNil, hCons, hTup, dAsg, dTup, dLst, dLstC, dCallG, vOp, vUn, vCB, vI, vIc, diL, diT, diR1, diR2, diLK, diS, dFor, dLc, dLcC, dYes, dPar, dDnewC, dDnew, dSl, dNoPart, dPart, dM1, vSplit, vJoin, dCM, vAppend, vExtend, vClear, vPop, vRev, hSubL, dRaise, vIx_str, vIx_tup, vIx_lst, vIx_lsk, vIx_cell, vAdd_int, vAdd_str, vAdd_ll, vAdd_lc, vAdd_cl, vAdd_cc, vLen_str, vLen_lst, vLen_lsk, vLen_tup, vLen_cell, asX_cell, asS_cell, asL_lst, asL_lsk, asX_lst, asS_lst, asS_lsk, asS_tup, vEqB_str, vEqB_int, vNeB_str, vNeB_int, vIsB, vI1, vI2, vAll, vAny, vSum, vIsi, vSlL, vSlS, resF, resC, startD, DEnds.of, List.map_cons, List.map_nil, List.length_cons, List.length_nil, List.replicate, List.cons_append, List.nil_append, List.append_nil, List.getElem?_cons_zero, List.getElem?_cons_succ, List.set_cons_zero, List.set_cons_succ, List.getElem?_nil, List.set_nil, Nat.reduceAdd, Nat.reduceSub, Nat.zero_add, Nat.sub_zero, Option.some.injEq, exists_eq_left', exists_eq_left, exists_and_left, exists_eq_right, true_and, and_true, D.str.injEq, D.int.injEq, D.bl.injEq, D.lst.injEq, D.tup.injEq, D.cell.injEq, D.dic.injEq, D.lsk.injEq, D.ty.injEq, D.ref.injEq, MO.lst.injEq, MO.dic.injEq, MO.dit.injEq, MO.ins.injEq, List.cons.injEq, reduceCtorEq, false_and, and_false, exists_false, or_false, false_or, if_true, if_false, ite_true, ite_false, Bool.false_eq_true, and_assoc, exists_const, exists_prop]
    rcases h with ⟨z, rfl, hz, h1, h2⟩ | ⟨s, hs, hk, he, hx⟩
    · simp only [resF, resC, vIx_str, vIx_tup, vIx_lst, vIx_lsk, vIx_cell, vAdd_int, vAdd_str, vAdd_ll, vAdd_lc, vAdd_cl, vAdd_cc, vLen_str, vLen_lst, vLen_lsk, vLen_tup, vLen_cell, asX_cell, asS_cell, asL_lst, asL_lsk, asX_lst, asS_lst, asS_lsk, asS_tup, vEqB_str, vEqB_int, vNeB_str, vNeB_int, D.str.injEq, D.int.injEq, D.bl.injEq, D.lst.injEq, D.tup.injEq, D.cell.injEq, D.ref.injEq, MO.lst.injEq, List.cons.injEq, reduceCtorEq, false_and, and_false, exists_false, or_false, false_or, exists_eq_left', exists_eq_left, exists_and_left, exists_eq_right, true_and, and_true, Option.some.injEq, if_true, if_false, Bool.false_eq_true, and_assoc]
      by_cases e : z = Str.ofString ""
      · rw [if_pos (decide_eq_true e)]
        exact ⟨by decide, .new1 wf (by simp) rfl (h1 [] (by unfold readM; rw [if_pos e]))⟩
      · rw [if_neg (by simp [e])]
        have er : readM z = if (rowsS z).all wordsOk then some (rowsS z) else none := by unfold readM; rw [if_neg e]
        have hn := rows_len (z := z)
        refine ⟨_, rfl, .inl ⟨z, rfl, hz, ?_⟩⟩
        simp only [resF, resC, vIx_str, vIx_tup, vIx_lst, vIx_lsk, vIx_cell, vAdd_int, vAdd_str, vAdd_ll, vAdd_lc, vAdd_cl, vAdd_cc, vLen_str, vLen_lst, vLen_lsk, vLen_tup, vLen_cell, asX_cell, asS_cell, asL_lst, asL_lsk, asX_lst, asS_lst, asS_lsk, asS_tup, vEqB_str, vEqB_int, vNeB_str, vNeB_int, D.str.injEq, D.int.injEq, D.bl.injEq, D.lst.injEq, D.tup.injEq, D.cell.injEq, D.ref.injEq, MO.lst.injEq, List.cons.injEq, reduceCtorEq, false_and, and_false, exists_false, or_false, false_or, exists_eq_left', exists_eq_left, exists_and_left, exists_eq_right, true_and, and_true, Option.some.injEq, if_true, if_false, Bool.false_eq_true, and_assoc]
        refine ⟨_, rfl, lcR_map (fun r => D.bl (wordsOk r)) (by omega) (fun r hr Q hq => ?_) ?_⟩
        · obtain ⟨l1, l2⟩ := rows_part hr
          simp only [Pt.at, wipeD, List.set_cons_succ, List.set_cons_zero]
          simp only [bx_K, bx_P, bx_w, bx_mg, bx_base, dFnv, dCallL, dVar, dC, dK, dNil, dCons, dOp, dUn, dCB, dB, dNot, dAnd, dOr, dAndV, dOrV, dNotV, dIf, dChain, dNext, dSeq, dGh, dDrop, dRet, dRetN, dIfS, dBreak, dCont, hName, hNil, hCons, hTup, dAsg, dTup, dLst, dLstC, dCallG, vOp, vUn, vCB, vI, vIc, diL, diT, diR1, diR2, diLK, diS, dFor, dLc, dLcC, dYes, dPar, dDnewC, dDnew, dSl, dNoPart, dPart, dM1, vSplit, vJoin, dCM, vAppend, vExtend, vClear, vPop, vRev, hSubL, dRaise, vIx_str, vIx_tup, vIx_lst, vIx_lsk, vIx_cell, vAdd_int, vAdd_str, vAdd_ll, vAdd_lc, vAdd_cl, vAdd_cc, vLen_str, vLen_lst, vLen_lsk, vLen_tup, vLen_cell, asX_cell, asS_cell, asL_lst, asL_lsk, asX_lst, asS_lst, asS_lsk, asS_tup, vEqB_str, vEqB_int, vNeB_str, vNeB_int, vIsB, vI1, vI2, vAll, vAny, vSum, vIsi, vSlL, vSlS, resF, resC, startD, DEnds.of, List.map_cons, List.map_nil, List.length_cons, List.length_nil, List.replicate, List.cons_append, List.nil_append, List.append_nil, List.getElem?_cons_zero, List.getElem?_cons_succ, List.set_cons_zero, List.set_cons_succ, List.getElem?_nil, List.set_nil, Nat.reduceAdd, Nat.reduceSub, Nat.zero_add, Nat.sub_zero, Option.some.injEq, exists_eq_left', exists_eq_left, exists_and_left, exists_eq_right, true_and, and_true, D.str.injEq, D.int.injEq, D.bl.injEq, D.lst.injEq, D.tup.injEq, D.cell.injEq, D.dic.injEq, D.lsk.injEq, D.ty.injEq, D.ref.injEq, MO.lst.injEq, MO.dic.injEq, MO.dit.injEq, MO.ins.injEq, List.cons.injEq, reduceCtorEq, false_and, and_false, exists_false, or_false, false_or, if_true, if_false, ite_true, ite_false, Bool.false_eq_true, and_assoc, exists_const, exists_prop]
          by_cases e3 : r.length = 3
          · rw [if_pos (by simp; omega)]
            refine lcR_map (fun w => D.bl (isNameS w)) (by omega) (fun w hw Q2 hq2 => ?_) ?_
            · have := l2 w hw
              simp only [Pt.at, wipeD, List.set_cons_succ, List.set_cons_zero]
              simp only [bx_K, bx_P, bx_w, bx_mg, bx_base, dFnv, dCallL, dVar, dC, dK, dNil, dCons, dOp, dUn, dCB, dB, dNot, dAnd, dOr, dAndV, dOrV, dNotV, dIf, dChain, dNext, dSeq, dGh, dDrop, dRet, dRetN, dIfS, dBreak, dCont, hName, hNil, hCons, hTup, dAsg, dTup, dLst, dLstC, dCallG, vOp, vUn, vCB, vI, vIc, diL, diT, diR1, diR2, diLK, diS, dFor, dLc, dLcC, dYes, dPar, dDnewC, dDnew, dSl, dNoPart, dPart, dM1, vSplit, vJoin, dCM, vAppend, vExtend, vClear, vPop, vRev, hSubL, dRaise, vIx_str, vIx_tup, vIx_lst, vIx_lsk, vIx_cell, vAdd_int, vAdd_str, vAdd_ll, vAdd_lc, vAdd_cl, vAdd_cc, vLen_str, vLen_lst, vLen_lsk, vLen_tup, vLen_cell, asX_cell, asS_cell, asL_lst, asL_lsk, asX_lst, asS_lst, asS_lsk, asS_tup, vEqB_str, vEqB_int, vNeB_str, vNeB_int, vIsB, vI1, vI2, vAll, vAny, vSum, vIsi, vSlL, vSlS, resF, resC, startD, DEnds.of, List.map_cons, List.map_nil, List.length_cons, List.length_nil, List.replicate, List.cons_append, List.nil_append, List.append_nil, List.getElem?_cons_zero, List.getElem?_cons_succ, List.set_cons_zero, List.set_cons_succ, List.getElem?_nil, List.set_nil, Nat.reduceAdd, Nat.reduceSub, Nat.zero_add, Nat.sub_zero, Option.some.injEq, exists_eq_left', exists_eq_left, exists_and_left, exists_eq_right, true_and, and_true, D.str.injEq, D.int.injEq, D.bl.injEq, D.lst.injEq, D.tup.injEq, D.cell.injEq, D.dic.injEq, D.lsk.injEq, D.ty.injEq, D.ref.injEq, MO.lst.injEq, MO.dic.injEq, MO.dit.injEq, MO.ins.injEq, List.cons.injEq, reduceCtorEq, false_and, and_false, exists_false, or_false, false_or, if_true, if_false, ite_true, ite_false, Bool.false_eq_true, and_assoc, exists_const, exists_prop]
              exact ⟨.inl ⟨w, rfl, by omega⟩, hq2⟩
            · refine ⟨_, bls_of, ?_⟩
              have : wordsOk r = (r.map isNameS).all id := by unfold wordsOk; rw [decide_eq_true e3, List.all_map]; rfl
              rw [← this]; exact hq
          · rw [if_neg (by simp; omega)]
            have : wordsOk r = false := by unfold wordsOk; rw [decide_eq_false e3]; rfl
            rw [← this]; exact hq
        · refine ⟨_, bls_of, ?_⟩
          have ea : ((rowsS z).map wordsOk).all id = (rowsS z).all wordsOk := by rw [List.all_map]; rfl
          rw [ea]
          cases hall : (rowsS z).all wordsOk with
          | false =>
            rw [if_pos (by decide)]
            exact .same rfl (h2 (by rw [er, hall]; rfl))
          | true =>
            rw [if_neg (by decide)]
            refine ⟨_, rfl, lcR_map tupD (by omega) (fun r hr Q hq => ?_) ?_⟩
            · simp only [Pt.at, wipeD, List.set_cons_succ, List.set_cons_zero]
              simp only [bx_K, bx_P, bx_w, bx_mg, bx_base, dFnv, dCallL, dVar, dC, dK, dNil, dCons, dOp, dUn, dCB, dB, dNot, dAnd, dOr, dAndV, dOrV, dNotV, dIf, dChain, dNext, dSeq, dGh, dDrop, dRet, dRetN, dIfS, dBreak, dCont, hName, hNil, hCons, hTup, dAsg, dTup, dLst, dLstC, dCallG, vOp, vUn, vCB, vI, vIc, diL, diT, diR1, diR2, diLK, diS, dFor, dLc, dLcC, dYes, dPar, dDnewC, dDnew, dSl, dNoPart, dPart, dM1, vSplit, vJoin, dCM, vAppend, vExtend, vClear, vPop, vRev, hSubL, dRaise, vIx_str, vIx_tup, vIx_lst, vIx_lsk, vIx_cell, vAdd_int, vAdd_str, vAdd_ll, vAdd_lc, vAdd_cl, vAdd_cc, vLen_str, vLen_lst, vLen_lsk, vLen_tup, vLen_cell, asX_cell, asS_cell, asL_lst, asL_lsk, asX_lst, asS_lst, asS_lsk, asS_tup, vEqB_str, vEqB_int, vNeB_str, vNeB_int, vIsB, vI1, vI2, vAll, vAny, vSum, vIsi, vSlL, vSlS, resF, resC, startD, DEnds.of, List.map_cons, List.map_nil, List.length_cons, List.length_nil, List.replicate, List.cons_append, List.nil_append, List.append_nil, List.getElem?_cons_zero, List.getElem?_cons_succ, List.set_cons_zero, List.set_cons_succ, List.getElem?_nil, List.set_nil, Nat.reduceAdd, Nat.reduceSub, Nat.zero_add, Nat.sub_zero, Option.some.injEq, exists_eq_left', exists_eq_left, exists_and_left, exists_eq_right, true_and, and_true, D.str.injEq, D.int.injEq, D.bl.injEq, D.lst.injEq, D.tup.injEq, D.cell.injEq, D.dic.injEq, D.lsk.injEq, D.ty.injEq, D.ref.injEq, MO.lst.injEq, MO.dic.injEq, MO.dit.injEq, MO.ins.injEq, List.cons.injEq, reduceCtorEq, false_and, and_false, exists_false, or_false, false_or, if_true, if_false, ite_true, ite_false, Bool.false_eq_true, and_assoc, exists_const, exists_prop]
              exact ⟨_, _, rfl, rfl, hq⟩
            · exact .new1 wf (by simp) cl_tups (h1 _ (by rw [er, hall]; rfl))
    · refine he _ ?_
      simp only [resF, resC, vIx_str, vIx_tup, vIx_lst, vIx_lsk, vIx_cell, vAdd_int, vAdd_str, vAdd_ll, vAdd_lc, vAdd_cl, vAdd_cc, vLen_str, vLen_lst, vLen_lsk, vLen_tup, vLen_cell, asX_cell, asS_cell, asL_lst, asL_lsk, asX_lst, asS_lst, asS_lsk, asS_tup, vEqB_str, vEqB_int, vNeB_str, vNeB_int, D.str.injEq, D.int.injEq, D.bl.injEq, D.lst.injEq, D.tup.injEq, D.cell.injEq, D.ref.injEq, MO.lst.injEq, List.cons.injEq, reduceCtorEq, false_and, and_false, exists_false, or_false, false_or, exists_eq_left', exists_eq_left, exists_and_left, exists_eq_right, true_and, and_true, Option.some.injEq, if_true, if_false, Bool.false_eq_true, and_assoc]
      exact ⟨_, rfl, .inr ⟨s, hs, hk, .same rfl hx⟩⟩⟩
abbrev s__law_cell_at : Stmt := (top 17)
theorem sc__law_cell_at : FnScope ["_law_script", "_law_k"] ["_law_script", "_law_k"] (defScope s__law_cell_at) := ⟨rfl, rfl, rfl, by decide +kernel, rfl, by decide +kernel, by decide +kernel⟩
def cellZ (ns : List Int) (k : Nat) : Int := ns.getD k 0
def sp__law_cell_at (K : PySem.W.Frag) (A : Adr) : DSp := fun ds μ q _ => ∃ (ns : List Int) (k : Nat), ds = [.lsk (ns.map D.int), .int k] ∧ q (.val (.int (cellZ ns k))) μ
theorem ok__law_cell_at (T : Txt K mg A) : DFn P w K mg base "_law_cell_at" 1 2 (sp__law_cell_at K A) := dfn (k := 0) T.f__law_cell_at sc__law_cell_at fun f cdv AA outer s H E hr =>
  ⟨_, (dss_cons (ds_if (vt_cmp op_lt rI0_bl (dv 1) (ve_callB call_lenU rLenU_v takesF T.b_len (by decide +kernel) (da_cons (dv 0) da_nil))) (dss_one (ds_ret (ve_ix ix_seq rIx_v (dv 0) (dv 1)))) dss_nil)
    (dss_one (ds_ret de_int))), fun ds μ qr Ex wf h => by
    obtain ⟨ns, k, rfl, h⟩ := h
    simp only [bx_K, bx_P, bx_w, bx_mg, bx_base, dFnv, dCallL, dVar, dC, dK, dNil, dCons, dOp, dUn, dCB, dB, dNot, dAnd, dOr, dAndV, dOrV, dNotV, dIf, dChain, dNext, dSeq, dGh, dDrop, dRet, dRetN, dIfS, dBreak, dCont, hName, hNil, hCons, hTup, dAsg, dTup, dLst, dLstC, dCallG, vOp, vUn, vCB, vI, vIc, diL, diT, diR1, diR2, diLK, diS, dFor, dLc, dLcC, dYes, dPar, dDnewC, dDnew, dSl, dNoPart, dPart, dM1, vSplit, vJoin, dCM, vAppend, vExtend, vClear, vPop, vRev, hSubL, dRaise, vIx_str, vIx_tup, vIx_lst, vIx_lsk, vIx_cell, vAdd_int, vAdd_str, vAdd_ll, vAdd_lc, vAdd_cl, vAdd_cc, vLen_str, vLen_lst, vLen_lsk, vLen_tup, vLen_cell, asX_cell, asS_cell, asL_lst, asL_lsk, asX_lst, asS_lst, asS_lsk, asS_tup, vEqB_str, vEqB_int, vNeB_str, vNeB_int, vIsB, vI1, vI2, vAll, vAny, vSum, vIsi, vSlL, vSlS, resF, resC, startD, DEnds.of, List.map_cons, List.map_nil, List.length_cons, List.length_nil, List.replicate, List.cons_append, List.nil_append, List.append_nil, List.getElem?_cons_zero, List.getElem?_cons_succ, List.set_cons_zero, List.set_cons_succ, List.getElem?_nil, List.set_nil, Nat.reduceAdd, Nat.reduceSub, Nat.zero_add, Nat.sub_zero, Option.some.injEq, exists_eq_left', exists_eq_left, exists_and_left, exists_eq_right, true_and, and_true, D.str.injEq, D.int.injEq, D.bl.injEq, D.lst.injEq, D.tup.injEq, D.cell.injEq, D.dic.injEq, D.lsk.injEq, D.ty.injEq, D.ref.injEq, MO.lst.injEq, MO.dic.injEq, MO.dit.injEq, MO.ins.injEq, List.cons.injEq, reduceCtorEq, false_and, and_false, exists_false, or_false, false_or, if_true, if_false, ite_true, ite_false, Bool.false_eq_true, and_assoc, exists_const, exists_prop]
    by_cases e : k < ns.length
    · rw [if_pos (by simp; omega)]
      refine ⟨.int (cellZ ns k), ?_, .same rfl h⟩
      refine atI_nat ?_
      rw [List.getElem?_map]
      unfold cellZ
      rw [List.getD_eq_getElem?_getD]
      simp [e]
    · rw [if_neg (by simp; omega)]
      have : cellZ ns k = 0 := by unfold cellZ; rw [List.getD_eq_getElem?_getD]; simp [e]
      rw [this] at h
      exact .same rfl h⟩
abbrev s__law_digit : Stmt := (top 18)
theorem sc__law_digit : FnScope ["_law_state", "_law_base", "_law_cell", "_law_found_here", "_law_number"] ["_law_state", "_law_base"] (defScope s__law_digit) := ⟨rfl, rfl, rfl, by decide +kernel, rfl, by decide +kernel, by decide +kernel⟩
def St13 (μ : Mu) (i : Nat) : Prop := (∃ c : Int, μ[i]? = some (.lst [.int c])) ∨ St3 μ i
theorem St13.lt {μ : Mu} {i : Nat} (h : St13 μ i) : i < μ.length := by
  rcases h with ⟨c, e⟩ | h
  · exact (List.getElem?_eq_some_iff.mp e).1
  · exact h.lt
theorem Up3.st2 {i : Nat} {μ μ' : Mu} (h : Up3 i μ μ') (hi : i < μ.length) : St3 μ' i := by
  obtain ⟨a, b, c, rfl⟩ := h
  exact ⟨a, b, c, by simp [hi]⟩
theorem St13.app {i : Nat} {μ ex : Mu} (h : St13 μ i) : St13 (μ ++ ex) i := by
  rcases h with ⟨c, e⟩ | h
  · exact .inl ⟨c, by rw [List.getElem?_append_left (List.getElem?_eq_some_iff.mp e).1]; exact e⟩
  · exact .inr h.app
def sp__law_digit (K : PySem.W.Frag) (A : Adr) : DSp := fun ds μ q _ => ∃ i b, ds = [.cell i, .int b] ∧ St13 μ i ∧ 0 < b ∧ b < 1073741824 ∧ ∀ r μ', Up3 i μ μ' → 0 ≤ r → r < b → q (.val (.int r)) μ'
theorem ok__law_digit (T : Txt K mg A) : DFn P w K mg base "_law_digit" 1 2 (sp__law_digit K A) := dfn (k := 0) T.f__law_digit sc__law_digit fun f cdv AA outer s H E hr =>
  ⟨_, (dss_cut (ds_if (vt_cmp (op_eqB hr.units) rEqB_v (ve_callB call_lenU rLenU_v takesF T.b_len (by decide +kernel) (da_cons (dv 0) da_nil)) de_int) (dss_cons (ds_set (i := 2) sc__law_digit.nd rfl (Or.inl rfl) (ve_ix ix_seq rIx_v (dv 0) de_int))
    (dss_cons (ds_asg (ve_ix ix_seq rIx_v (de_lst (da_cons de_int (da_cons (dv 2) da_nil))) (ve_callTy call_int1 rInt_v takesF T.b_int (by decide +kernel) (da_cons (ve_cmp op_ge rI0_bl (dv 2) (ve_op op_pow rI_int takesF de_int de_int)) da_nil))) (dg_subL (dv 0) de_int))
    (dss_one (ds_expr (de_cm PySem.F.slot_list_extend PySem.F.type_list_extend mt_extend rExtend_v (dv 0) (da_cons (de_lst (da_cons (ve_op op_mod rI_int takesF (dv 2) de_int) (da_cons de_int da_nil))) da_nil)))))) dss_nil)
    (dss_cut (ds_if (vt_cmp op_gt rI0_bl (ve_ix ix_seq rIx_v (dv 0) de_int) de_int) (dss_cons (ds_set (i := 3) sc__law_digit.nd rfl (Or.inl rfl) (ve_op op_mod rI_int takesF (ve_ix ix_seq rIx_v (dv 0) de_int) (dv 1)))
    (dss_cons (ds_asg (ve_op op_fdiv rI_int takesF (ve_ix ix_seq rIx_v (dv 0) de_int) (dv 1)) (dg_subL (dv 0) de_int))
    (dss_one (ds_ret (dv 3))))) dss_nil)
    (dss_cons (ds_asg (ve_op op_addU rAdd_v takesF (ve_ix ix_seq rIx_v (dv 0) de_int) de_int) (dg_subL (dv 0) de_int))
    (dss_cons (ds_set (i := 4) sc__law_digit.nd rfl (Or.inl rfl) (ve_op op_mod rI_int takesF (ve_op op_mul rI_int takesF (ve_op op_addU rAdd_v takesF (ve_op op_addU rAdd_v takesF (ve_ix ix_seq rIx_v (dv 0) de_int) (ve_op op_mul rI_int takesF de_int (ve_ix ix_seq rIx_v (dv 0) de_int))) de_int) de_int) de_int))
    (dss_cons (ds_set (i := 4) sc__law_digit.nd rfl (Or.inl rfl) (ve_op op_mod rI_int takesF (ve_op op_mul rI_int takesF (dv 4) (ve_op op_addU rAdd_v takesF (ve_op op_fdiv rI_int takesF (dv 4) de_int) de_int)) de_int))
    (dss_one (ds_ret (ve_op op_mod rI_int takesF (ve_op op_mod rI_int takesF (ve_op op_mul rI_int takesF (dv 4) (ve_op op_addU rAdd_v takesF (ve_op op_fdiv rI_int takesF (dv 4) de_int) de_int)) de_int) (dv 1))))))))), fun ds μ qr Ex wf h => by
    obtain ⟨i, b, rfl, st, h0, h1, h⟩ := h
    have hi := st.lt
    have hL : 100 ≤ sizeLine := by decide
    simp only [dSeqI]
    refine ⟨fun ρ μ' => (∃ o, ρ = [some (.cell i), some (.int b), o, none, none]) ∧ St3 μ' i ∧ Up3 i μ μ', ?_, ?_⟩
    · simp only [bx_K, bx_P, bx_w, bx_mg, bx_base, dFnv, dCallL, dVar, dC, dK, dNil, dCons, dOp, dUn, dCB, dB, dNot, dAnd, dOr, dAndV, dOrV, dNotV, dIf, dChain, dNext, dSeq, dGh, dDrop, dRet, dRetN, dIfS, dBreak, dCont, hName, hNil, hCons, hTup, dAsg, dTup, dLst, dLstC, dCallG, vOp, vUn, vCB, vI, vIc, diL, diT, diR1, diR2, diLK, diS, dFor, dLc, dLcC, dYes, dPar, dDnewC, dDnew, dSl, dNoPart, dPart, dM1, vSplit, vJoin, dCM, vAppend, vExtend, vClear, vPop, vRev, hSubL, dRaise, vIx_str, vIx_tup, vIx_lst, vIx_lsk, vIx_cell, vAdd_int, vAdd_str, vAdd_ll, vAdd_lc, vAdd_cl, vAdd_cc, vLen_str, vLen_lst, vLen_lsk, vLen_tup, vLen_cell, asX_cell, asS_cell, asL_lst, asL_lsk, asX_lst, asS_lst, asS_lsk, asS_tup, vEqB_str, vEqB_int, vNeB_str, vNeB_int, vIsB, vI1, vI2, vAll, vAny, vSum, vIsi, vSlL, vSlS, resF, resC, startD, DEnds.of, List.map_cons, List.map_nil, List.length_cons, List.length_nil, List.replicate, List.cons_append, List.nil_append, List.append_nil, List.getElem?_cons_zero, List.getElem?_cons_succ, List.set_cons_zero, List.set_cons_succ, List.getElem?_nil, List.set_nil, Nat.reduceAdd, Nat.reduceSub, Nat.zero_add, Nat.sub_zero, Option.some.injEq, exists_eq_left', exists_eq_left, exists_and_left, exists_eq_right, true_and, and_true, D.str.injEq, D.int.injEq, D.bl.injEq, D.lst.injEq, D.tup.injEq, D.cell.injEq, D.dic.injEq, D.lsk.injEq, D.ty.injEq, D.ref.injEq, MO.lst.injEq, MO.dic.injEq, MO.dit.injEq, MO.ins.injEq, List.cons.injEq, reduceCtorEq, false_and, and_false, exists_false, or_false, false_or, if_true, if_false, ite_true, ite_false, Bool.false_eq_true, and_assoc, exists_const, exists_prop]
      rcases st with ⟨c, e⟩ | st
      · simp only [asL_get e, Option.some.injEq, exists_eq_left', atI0]
        rw [if_pos (by rfl)]
        refine ⟨by omega, ⟨by decide, by decide, by decide⟩, c, rfl, ?_⟩
        rw [vInt_bl]
        simp only [resF, resC, vIx_str, vIx_tup, vIx_lst, vIx_lsk, vIx_cell, vAdd_int, vAdd_str, vAdd_ll, vAdd_lc, vAdd_cl, vAdd_cc, vLen_str, vLen_lst, vLen_lsk, vLen_tup, vLen_cell, asX_cell, asS_cell, asL_lst, asL_lsk, asX_lst, asS_lst, asS_lsk, asS_tup, vEqB_str, vEqB_int, vNeB_str, vNeB_int, D.str.injEq, D.int.injEq, D.bl.injEq, D.lst.injEq, D.tup.injEq, D.cell.injEq, D.ref.injEq, MO.lst.injEq, List.cons.injEq, reduceCtorEq, false_and, and_false, exists_false, or_false, false_or, exists_eq_left', exists_eq_left, exists_and_left, exists_eq_right, true_and, and_true, Option.some.injEq, if_true, if_false, Bool.false_eq_true, and_assoc]
        obtain ⟨d0, hd0, hm⟩ := atI_in (xs := [D.int 0, D.int c]) (i := if decide (10 ^ Int.toNat 18 ≤ c) = true then 1 else 0) (by split <;> decide) (by split <;> simp)
        obtain ⟨c0, rfl⟩ : ∃ c0 : Int, d0 = .int c0 := by
          simp only [List.mem_cons, List.not_mem_nil, or_false] at hm
          rcases hm with rfl | rfl <;> exact ⟨_, rfl⟩
        refine ⟨_, hd0, [.int c], e, 0, rfl, ?_⟩
        simp only [get_set hi, set_set, MO.lst.injEq, Option.some.injEq, exists_eq_left']
        exact ⟨by decide, by omega, by simp; omega, ⟨_, rfl⟩, ⟨_, _, _, get_set hi⟩, ⟨_, _, _, rfl⟩⟩
      · obtain ⟨x, y, z, e⟩ := st
        simp only [asL_get e, Option.some.injEq, exists_eq_left']
        rw [if_neg (by simp)]
        exact ⟨⟨none, rfl⟩, ⟨x, y, z, e⟩, Up3.refl ⟨x, y, z, e⟩⟩
    rintro ρ μ' ⟨⟨o, rfl⟩, ⟨x, y, z, e⟩, u⟩
    have hi' : i < μ'.length := by rw [u.len]; exact hi
    have f : ∀ (r a b1 c : Int), 0 ≤ r → r < b → FinR μ qr (.int r) (μ'.set i (.lst [.int a, .int b1, .int c])) := fun r a b1 c h2 h3 => by
      have u2 : Up3 i μ (μ'.set i (.lst [.int a, .int b1, .int c])) := u.trans ⟨a, b1, c, rfl⟩
      exact .same u2.len (h r _ u2 h2 h3)
    refine ⟨fun ρ μ1 => ρ = [some (.cell i), some (.int b), o, none, none] ∧ μ1 = μ', ?_, ?_⟩
    · simp only [bx_K, bx_P, bx_w, bx_mg, bx_base, dFnv, dCallL, dVar, dC, dK, dNil, dCons, dOp, dUn, dCB, dB, dNot, dAnd, dOr, dAndV, dOrV, dNotV, dIf, dChain, dNext, dSeq, dGh, dDrop, dRet, dRetN, dIfS, dBreak, dCont, hName, hNil, hCons, hTup, dAsg, dTup, dLst, dLstC, dCallG, vOp, vUn, vCB, vI, vIc, diL, diT, diR1, diR2, diLK, diS, dFor, dLc, dLcC, dYes, dPar, dDnewC, dDnew, dSl, dNoPart, dPart, dM1, vSplit, vJoin, dCM, vAppend, vExtend, vClear, vPop, vRev, hSubL, dRaise, vIx_str, vIx_tup, vIx_lst, vIx_lsk, vIx_cell, vAdd_int, vAdd_str, vAdd_ll, vAdd_lc, vAdd_cl, vAdd_cc, vLen_str, vLen_lst, vLen_lsk, vLen_tup, vLen_cell, asX_cell, asS_cell, asL_lst, asL_lsk, asX_lst, asS_lst, asS_lsk, asS_tup, vEqB_str, vEqB_int, vNeB_str, vNeB_int, vIsB, vI1, vI2, vAll, vAny, vSum, vIsi, vSlL, vSlS, resF, resC, startD, DEnds.of, List.map_cons, List.map_nil, List.length_cons, List.length_nil, List.replicate, List.cons_append, List.nil_append, List.append_nil, List.getElem?_cons_zero, List.getElem?_cons_succ, List.set_cons_zero, List.set_cons_succ, List.getElem?_nil, List.set_nil, Nat.reduceAdd, Nat.reduceSub, Nat.zero_add, Nat.sub_zero, Option.some.injEq, exists_eq_left', exists_eq_left, exists_and_left, exists_eq_right, true_and, and_true, D.str.injEq, D.int.injEq, D.bl.injEq, D.lst.injEq, D.tup.injEq, D.cell.injEq, D.dic.injEq, D.lsk.injEq, D.ty.injEq, D.ref.injEq, MO.lst.injEq, MO.dic.injEq, MO.dit.injEq, MO.ins.injEq, List.cons.injEq, reduceCtorEq, false_and, and_false, exists_false, or_false, false_or, if_true, if_false, ite_true, ite_false, Bool.false_eq_true, and_assoc, exists_const, exists_prop]
      simp only [asL_get e, e, Option.some.injEq, exists_eq_left', atI0, MO.lst.injEq]
      simp only [resF, resC, vIx_str, vIx_tup, vIx_lst, vIx_lsk, vIx_cell, vAdd_int, vAdd_str, vAdd_ll, vAdd_lc, vAdd_cl, vAdd_cc, vLen_str, vLen_lst, vLen_lsk, vLen_tup, vLen_cell, asX_cell, asS_cell, asL_lst, asL_lsk, asX_lst, asS_lst, asS_lsk, asS_tup, vEqB_str, vEqB_int, vNeB_str, vNeB_int, D.str.injEq, D.int.injEq, D.bl.injEq, D.lst.injEq, D.tup.injEq, D.cell.injEq, D.ref.injEq, MO.lst.injEq, List.cons.injEq, reduceCtorEq, false_and, and_false, exists_false, or_false, false_or, exists_eq_left', exists_eq_left, exists_and_left, exists_eq_right, true_and, and_true, Option.some.injEq, if_true, if_false, Bool.false_eq_true, and_assoc]
      split
      · exact ⟨h0, ⟨h0, h1⟩, 0, rfl, f _ _ _ _ (Int.emod_nonneg _ (by omega)) (Int.emod_lt_of_pos _ h0)⟩
      · trivial
    rintro ρ μ1 ⟨rfl, rfl⟩
    simp only [bx_K, bx_P, bx_w, bx_mg, bx_base, dFnv, dCallL, dVar, dC, dK, dNil, dCons, dOp, dUn, dCB, dB, dNot, dAnd, dOr, dAndV, dOrV, dNotV, dIf, dChain, dNext, dSeq, dGh, dDrop, dRet, dRetN, dIfS, dBreak, dCont, hName, hNil, hCons, hTup, dAsg, dTup, dLst, dLstC, dCallG, vOp, vUn, vCB, vI, vIc, diL, diT, diR1, diR2, diLK, diS, dFor, dLc, dLcC, dYes, dPar, dDnewC, dDnew, dSl, dNoPart, dPart, dM1, vSplit, vJoin, dCM, vAppend, vExtend, vClear, vPop, vRev, hSubL, dRaise, vIx_str, vIx_tup, vIx_lst, vIx_lsk, vIx_cell, vAdd_int, vAdd_str, vAdd_ll, vAdd_lc, vAdd_cl, vAdd_cc, vLen_str, vLen_lst, vLen_lsk, vLen_tup, vLen_cell, asX_cell, asS_cell, asL_lst, asL_lsk, asX_lst, asS_lst, asS_lsk, asS_tup, vEqB_str, vEqB_int, vNeB_str, vNeB_int, vIsB, vI1, vI2, vAll, vAny, vSum, vIsi, vSlL, vSlS, resF, resC, startD, DEnds.of, List.map_cons, List.map_nil, List.length_cons, List.length_nil, List.replicate, List.cons_append, List.nil_append, List.append_nil, List.getElem?_cons_zero, List.getElem?_cons_succ, List.set_cons_zero, List.set_cons_succ, List.getElem?_nil, List.set_nil, Nat.reduceAdd, Nat.reduceSub, Nat.zero_add, Nat.sub_zero, Option.some.injEq, exists_eq_left', exists_eq_left, exists_and_left, exists_eq_right, true_and, and_true, D.str.injEq, D.int.injEq, D.bl.injEq, D.lst.injEq, D.tup.injEq, D.cell.injEq, D.dic.injEq, D.lsk.injEq, D.ty.injEq, D.ref.injEq, MO.lst.injEq, MO.dic.injEq, MO.dit.injEq, MO.ins.injEq, List.cons.injEq, reduceCtorEq, false_and, and_false, exists_false, or_false, false_or, if_true, if_false, ite_true, ite_false, Bool.false_eq_true, and_assoc, exists_const, exists_prop]
    simp only [asL_get e, e, Option.some.injEq, exists_eq_left', atI0, atI1, atI2, MO.lst.injEq]
    simp only [resF, resC, vIx_str, vIx_tup, vIx_lst, vIx_lsk, vIx_cell, vAdd_int, vAdd_str, vAdd_ll, vAdd_lc, vAdd_cl, vAdd_cc, vLen_str, vLen_lst, vLen_lsk, vLen_tup, vLen_cell, asX_cell, asS_cell, asL_lst, asL_lsk, asX_lst, asS_lst, asS_lsk, asS_tup, vEqB_str, vEqB_int, vNeB_str, vNeB_int, D.str.injEq, D.int.injEq, D.bl.injEq, D.lst.injEq, D.tup.injEq, D.cell.injEq, D.ref.injEq, MO.lst.injEq, List.cons.injEq, reduceCtorEq, false_and, and_false, exists_false, or_false, false_or, exists_eq_left', exists_eq_left, exists_and_left, exists_eq_right, true_and, and_true, Option.some.injEq, if_true, if_false, Bool.false_eq_true, and_assoc]
    refine ⟨_, e, 2, rfl, _, asL_set hi', .int y, rfl, _, asL_set hi', .int (z + 1), rfl, z + 1, rfl, .inl (by decide), ?_⟩
    simp only [resF, resC, vIx_str, vIx_tup, vIx_lst, vIx_lsk, vIx_cell, vAdd_int, vAdd_str, vAdd_ll, vAdd_lc, vAdd_cl, vAdd_cc, vLen_str, vLen_lst, vLen_lsk, vLen_tup, vLen_cell, asX_cell, asS_cell, asL_lst, asL_lsk, asX_lst, asS_lst, asS_lsk, asS_tup, vEqB_str, vEqB_int, vNeB_str, vNeB_int, D.str.injEq, D.int.injEq, D.bl.injEq, D.lst.injEq, D.tup.injEq, D.cell.injEq, D.ref.injEq, MO.lst.injEq, List.cons.injEq, reduceCtorEq, false_and, and_false, exists_false, or_false, false_or, exists_eq_left', exists_eq_left, exists_and_left, exists_eq_right, true_and, and_true, Option.some.injEq, if_true, if_false, Bool.false_eq_true, and_assoc]
    refine ⟨.inr (by decide), by decide, ⟨by decide, by decide⟩, .inl ?_, by decide, ⟨by decide, by decide⟩, .inl ?_, by decide, h0, f _ _ _ _ (Int.emod_nonneg _ (by omega)) (Int.emod_lt_of_pos _ h0)⟩
    · generalize (y + 7919 * (z + 1) + 1) * 48271 = k
      omega
    · generalize (y + 7919 * (z + 1) + 1) * 48271 % 2147483647 = k
      generalize k * (k / 1009 + 69621) = l
      omega⟩
abbrev s__law_name : Stmt := (top 19)
theorem sc__law_name : FnScope ["_law_state", "_law_word", "_law_j"] ["_law_state"] (defScope s__law_name) := ⟨rfl, rfl, rfl, by decide +kernel, rfl, by decide +kernel, by decide +kernel⟩
def sp__law_name (K : PySem.W.Frag) (A : Adr) : DSp := fun ds μ q _ => ∃ i, ds = [.cell i] ∧ St13 μ i ∧ ∀ z μ', Up3 i μ μ' → isNameS z = true → q (.val (.str z)) μ'
theorem ok__law_name (T : Txt K mg A) : DFn P w K mg base "_law_name" 2 1 (sp__law_name K A) := dfn (k := 1) T.f__law_name sc__law_name fun f cdv AA outer s H E hr =>
  ⟨_, (dss_cons (ds_set (i := 1) sc__law_name.nd rfl (Or.inl rfl) de_str)
    (dss_cons (ds_for (passes_of rfl) rfl (di_range1 T.b_range (da_cons (ve_ix ix_seq rIx_v (de_lst (da_cons de_int (da_cons de_int (da_cons de_int (da_cons (ve_op op_addU rAdd_v takesF de_int (de_callG takesF (ok__law_digit T) (hr.mono (by decide)) (takes_of rfl rfl rfl rfl) (da_cons (dv 0) (da_cons de_int da_nil)))) da_nil))))) (de_callG takesF (ok__law_digit T) (hr.mono (by decide)) (takes_of rfl rfl rfl rfl) (da_cons (dv 0) (da_cons de_int da_nil)))) da_nil)) (dg_name (i := 2) sc__law_name.nd rfl (Or.inl rfl)) (dss_one (ds_set (i := 1) sc__law_name.nd rfl (Or.inl rfl) (ve_op op_addU rAdd_v takesF (dv 1) (ve_ix ix_seq rIx_v de_str (de_callG takesF (ok__law_digit T) (hr.mono (by decide)) (takes_of rfl rfl rfl rfl) (da_cons (dv 0) (da_cons de_int da_nil))))))))
    (dss_one (ds_ret (dv 1))))), fun ds μ qr Ex wf h => by
    obtain ⟨i, rfl, st, h⟩ := h
    have hi := st.lt
    have hL : 100 ≤ sizeLine := by decide
    simp only [bx_K, bx_P, bx_w, bx_mg, bx_base, dFnv, dCallL, dVar, dC, dK, dNil, dCons, dOp, dUn, dCB, dB, dNot, dAnd, dOr, dAndV, dOrV, dNotV, dIf, dChain, dNext, dSeq, dGh, dDrop, dRet, dRetN, dIfS, dBreak, dCont, hName, hNil, hCons, hTup, dAsg, dTup, dLst, dLstC, dCallG, vOp, vUn, vCB, vI, vIc, diL, diT, diR1, diR2, diLK, diS, dFor, dLc, dLcC, dYes, dPar, dDnewC, dDnew, dSl, dNoPart, dPart, dM1, vSplit, vJoin, dCM, vAppend, vExtend, vClear, vPop, vRev, hSubL, dRaise, vIx_str, vIx_tup, vIx_lst, vIx_lsk, vIx_cell, vAdd_int, vAdd_str, vAdd_ll, vAdd_lc, vAdd_cl, vAdd_cc, vLen_str, vLen_lst, vLen_lsk, vLen_tup, vLen_cell, asX_cell, asS_cell, asL_lst, asL_lsk, asX_lst, asS_lst, asS_lsk, asS_tup, vEqB_str, vEqB_int, vNeB_str, vNeB_int, vIsB, vI1, vI2, vAll, vAny, vSum, vIsi, vSlL, vSlS, resF, resC, startD, DEnds.of, List.map_cons, List.map_nil, List.length_cons, List.length_nil, List.replicate, List.cons_append, List.nil_append, List.append_nil, List.getElem?_cons_zero, List.getElem?_cons_succ, List.set_cons_zero, List.set_cons_succ, List.getElem?_nil, List.set_nil, Nat.reduceAdd, Nat.reduceSub, Nat.zero_add, Nat.sub_zero, Option.some.injEq, exists_eq_left', exists_eq_left, exists_and_left, exists_eq_right, true_and, and_true, D.str.injEq, D.int.injEq, D.bl.injEq, D.lst.injEq, D.tup.injEq, D.cell.injEq, D.dic.injEq, D.lsk.injEq, D.ty.injEq, D.ref.injEq, MO.lst.injEq, MO.dic.injEq, MO.dit.injEq, MO.ins.injEq, List.cons.injEq, reduceCtorEq, false_and, and_false, exists_false, or_false, false_or, if_true, if_false, ite_true, ite_false, Bool.false_eq_true, and_assoc, exists_const, exists_prop]
    refine ⟨i, 8, rfl, st, by decide, by decide, fun r μ1 u1 h0 h8 => ?_⟩
    simp only [resF, resC, vIx_str, vIx_tup, vIx_lst, vIx_lsk, vIx_cell, vAdd_int, vAdd_str, vAdd_ll, vAdd_lc, vAdd_cl, vAdd_cc, vLen_str, vLen_lst, vLen_lsk, vLen_tup, vLen_cell, asX_cell, asS_cell, asL_lst, asL_lsk, asX_lst, asS_lst, asS_lsk, asS_tup, vEqB_str, vEqB_int, vNeB_str, vNeB_int, D.str.injEq, D.int.injEq, D.bl.injEq, D.lst.injEq, D.tup.injEq, D.cell.injEq, D.ref.injEq, MO.lst.injEq, List.cons.injEq, reduceCtorEq, false_and, and_false, exists_false, or_false, false_or, exists_eq_left', exists_eq_left, exists_and_left, exists_eq_right, true_and, and_true, Option.some.injEq, if_true, if_false, Bool.false_eq_true, and_assoc]
    refine ⟨by omega, i, 4, rfl, .inr (Up3.st2 u1 hi), by decide, by decide, fun r4 μ2 u2 h40 h44 => ?_⟩
    have v2 := u1.trans u2
    simp only [resF, resC, vIx_str, vIx_tup, vIx_lst, vIx_lsk, vIx_cell, vAdd_int, vAdd_str, vAdd_ll, vAdd_lc, vAdd_cl, vAdd_cc, vLen_str, vLen_lst, vLen_lsk, vLen_tup, vLen_cell, asX_cell, asS_cell, asL_lst, asL_lsk, asX_lst, asS_lst, asS_lsk, asS_tup, vEqB_str, vEqB_int, vNeB_str, vNeB_int, D.str.injEq, D.int.injEq, D.bl.injEq, D.lst.injEq, D.tup.injEq, D.cell.injEq, D.ref.injEq, MO.lst.injEq, List.cons.injEq, reduceCtorEq, false_and, and_false, exists_false, or_false, false_or, exists_eq_left', exists_eq_left, exists_and_left, exists_eq_right, true_and, and_true, Option.some.injEq, if_true, if_false, Bool.false_eq_true, and_assoc]
    obtain ⟨d0, hd0, hm⟩ := atI_in (xs := [D.int 1, D.int 2, D.int 8, D.int (1 + r)]) (i := r4) h40 (by simpa using h44)
    obtain ⟨n, rfl, hn1, hn8⟩ : ∃ n : Int, d0 = .int n ∧ 1 ≤ n ∧ n ≤ 8 := by
      simp only [List.mem_cons, List.not_mem_nil, or_false] at hm
      rcases hm with rfl | rfl | rfl | rfl <;> exact ⟨_, rfl, by omega, by omega⟩
    refine ⟨_, hd0, n, rfl, by omega, by omega, ?_⟩
    refine forR_inv (fun k ρ μ' => ∃ z o, ρ = [some (.cell i), some (.str z), o] ∧ Up3 i μ μ' ∧ z.length = k ∧ ∀ c ∈ z.cps.toList, c ∈ letters.cps.toList) ⟨_, none, rfl, v2, rfl, fun c hc => nomatch hc⟩ ?_ ?_
    · rintro k d ρ μ' hd ⟨z, o, rfl, u, hl, hc⟩
      obtain ⟨rfl, hk⟩ := rngD_get hd
      simp only [bx_K, bx_P, bx_w, bx_mg, bx_base, dFnv, dCallL, dVar, dC, dK, dNil, dCons, dOp, dUn, dCB, dB, dNot, dAnd, dOr, dAndV, dOrV, dNotV, dIf, dChain, dNext, dSeq, dGh, dDrop, dRet, dRetN, dIfS, dBreak, dCont, hName, hNil, hCons, hTup, dAsg, dTup, dLst, dLstC, dCallG, vOp, vUn, vCB, vI, vIc, diL, diT, diR1, diR2, diLK, diS, dFor, dLc, dLcC, dYes, dPar, dDnewC, dDnew, dSl, dNoPart, dPart, dM1, vSplit, vJoin, dCM, vAppend, vExtend, vClear, vPop, vRev, hSubL, dRaise, vIx_str, vIx_tup, vIx_lst, vIx_lsk, vIx_cell, vAdd_int, vAdd_str, vAdd_ll, vAdd_lc, vAdd_cl, vAdd_cc, vLen_str, vLen_lst, vLen_lsk, vLen_tup, vLen_cell, asX_cell, asS_cell, asL_lst, asL_lsk, asX_lst, asS_lst, asS_lsk, asS_tup, vEqB_str, vEqB_int, vNeB_str, vNeB_int, vIsB, vI1, vI2, vAll, vAny, vSum, vIsi, vSlL, vSlS, resF, resC, startD, DEnds.of, List.map_cons, List.map_nil, List.length_cons, List.length_nil, List.replicate, List.cons_append, List.nil_append, List.append_nil, List.getElem?_cons_zero, List.getElem?_cons_succ, List.set_cons_zero, List.set_cons_succ, List.getElem?_nil, List.set_nil, Nat.reduceAdd, Nat.reduceSub, Nat.zero_add, Nat.sub_zero, Option.some.injEq, exists_eq_left', exists_eq_left, exists_and_left, exists_eq_right, true_and, and_true, D.str.injEq, D.int.injEq, D.bl.injEq, D.lst.injEq, D.tup.injEq, D.cell.injEq, D.dic.injEq, D.lsk.injEq, D.ty.injEq, D.ref.injEq, MO.lst.injEq, MO.dic.injEq, MO.dit.injEq, MO.ins.injEq, List.cons.injEq, reduceCtorEq, false_and, and_false, exists_false, or_false, false_or, if_true, if_false, ite_true, ite_false, Bool.false_eq_true, and_assoc, exists_const, exists_prop]
      refine ⟨i, 26, rfl, .inr (Up3.st2 u hi), by decide, by decide, fun r26 μ3 u3 h260 h266 => ?_⟩
      simp only [resF, resC, vIx_str, vIx_tup, vIx_lst, vIx_lsk, vIx_cell, vAdd_int, vAdd_str, vAdd_ll, vAdd_lc, vAdd_cl, vAdd_cc, vLen_str, vLen_lst, vLen_lsk, vLen_tup, vLen_cell, asX_cell, asS_cell, asL_lst, asL_lsk, asX_lst, asS_lst, asS_lsk, asS_tup, vEqB_str, vEqB_int, vNeB_str, vNeB_int, D.str.injEq, D.int.injEq, D.bl.injEq, D.lst.injEq, D.tup.injEq, D.cell.injEq, D.ref.injEq, MO.lst.injEq, List.cons.injEq, reduceCtorEq, false_and, and_false, exists_false, or_false, false_or, exists_eq_left', exists_eq_left, exists_and_left, exists_eq_right, true_and, and_true, Option.some.injEq, if_true, if_false, Bool.false_eq_true, and_assoc]
      obtain ⟨c, hc1, hc2⟩ := atI_in (xs := letters.cps.toList) (i := r26) h260 h266
      refine ⟨by decide, c, hc1, ?_⟩
      have l1 : (⟨#[c]⟩ : Str).length = 1 := rfl
      refine ⟨by rw [l1]; omega, u.trans u3, by rw [Str.length_append, l1, hl], fun x hx => ?_⟩
      rw [cps_app] at hx
      rcases List.mem_append.mp hx with hx | hx
      · exact hc x hx
      · have : x = c := by simpa using hx
        exact this ▸ hc2
    · rintro ρ μ' ⟨z, o, rfl, u, hl, hc⟩
      rw [rngD_len] at hl
      simp only [bx_K, bx_P, bx_w, bx_mg, bx_base, dFnv, dCallL, dVar, dC, dK, dNil, dCons, dOp, dUn, dCB, dB, dNot, dAnd, dOr, dAndV, dOrV, dNotV, dIf, dChain, dNext, dSeq, dGh, dDrop, dRet, dRetN, dIfS, dBreak, dCont, hName, hNil, hCons, hTup, dAsg, dTup, dLst, dLstC, dCallG, vOp, vUn, vCB, vI, vIc, diL, diT, diR1, diR2, diLK, diS, dFor, dLc, dLcC, dYes, dPar, dDnewC, dDnew, dSl, dNoPart, dPart, dM1, vSplit, vJoin, dCM, vAppend, vExtend, vClear, vPop, vRev, hSubL, dRaise, vIx_str, vIx_tup, vIx_lst, vIx_lsk, vIx_cell, vAdd_int, vAdd_str, vAdd_ll, vAdd_lc, vAdd_cl, vAdd_cc, vLen_str, vLen_lst, vLen_lsk, vLen_tup, vLen_cell, asX_cell, asS_cell, asL_lst, asL_lsk, asX_lst, asS_lst, asS_lsk, asS_tup, vEqB_str, vEqB_int, vNeB_str, vNeB_int, vIsB, vI1, vI2, vAll, vAny, vSum, vIsi, vSlL, vSlS, resF, resC, startD, DEnds.of, List.map_cons, List.map_nil, List.length_cons, List.length_nil, List.replicate, List.cons_append, List.nil_append, List.append_nil, List.getElem?_cons_zero, List.getElem?_cons_succ, List.set_cons_zero, List.set_cons_succ, List.getElem?_nil, List.set_nil, Nat.reduceAdd, Nat.reduceSub, Nat.zero_add, Nat.sub_zero, Option.some.injEq, exists_eq_left', exists_eq_left, exists_and_left, exists_eq_right, true_and, and_true, D.str.injEq, D.int.injEq, D.bl.injEq, D.lst.injEq, D.tup.injEq, D.cell.injEq, D.dic.injEq, D.lsk.injEq, D.ty.injEq, D.ref.injEq, MO.lst.injEq, MO.dic.injEq, MO.dit.injEq, MO.ins.injEq, List.cons.injEq, reduceCtorEq, false_and, and_false, exists_false, or_false, false_or, if_true, if_false, ite_true, ite_false, Bool.false_eq_true, and_assoc, exists_const, exists_prop]
      refine .same u.len (h z _ u ?_)
      unfold isNameS
      rw [decide_eq_true (by omega), decide_eq_true (by omega), Bool.true_and, Bool.true_and, List.all_eq_true]
      exact fun c hx => decide_eq_true (hc c hx)⟩
abbrev s__law_found : Stmt := (top 20)
theorem sc__law_found : FnScope ["_law_text", "_law_found_here", "e", "_law_other"] ["_law_text"] (defScope s__law_found) := ⟨rfl, rfl, rfl, by decide +kernel, rfl, by decide +kernel, by decide +kernel⟩
def foundD (z : Str) : D := match readM z with | some ms => .lst (ms.map tupD) | none => .str "refused"
def sp__law_found (K : PySem.W.Frag) (A : Adr) : DSp := fun ds μ q Ex => ∃ d, ds = [d] ∧ ((∃ z, d = .str z ∧ z.length + 2 ≤ sizeLine ∧ q (.val (foundD z)) μ) ∨
  ∃ s, tyD μ d = some s ∧ kitB s "str" = some false ∧ (∀ q : QR, q (.val (.bl false)) μ → vEqB d (.str "") μ q) ∧ q (.val (.str "refused")) μ)
theorem ok__law_found (T : Txt K mg A) : DFn P w K mg base "_law_found" 3 1 (sp__law_found K A) := dfn (k := 2) T.f__law_found sc__law_found fun f cdv AA outer s H E hr =>
  ⟨_, (dss_cons (ds_set (i := 1) sc__law_found.nd rfl (Or.inl rfl) de_str)
    (dss_cons (ds_try_as (i := 2) rfl rfl sc__law_found.nd rfl rfl (names_own T.g_NoText) (takes_of rfl rfl rfl rfl) (fun W pn xe tk hpo => (dss_one (ds_set (i := 1) sc__law_found.nd rfl (Or.inl rfl) (de_callG takesF (ok_read_moves T) ((room_tr (pn := pn) (xe := xe) hr).mono (by decide)) tk (da_cons (dv 0) da_nil))))) (fun a oe cls d pn y hz hf hh => (dss_cons (ds_set (i := 3) sc__law_found.nd rfl (Or.inl rfl) (de_or (ve_callB (call_isET hz hf) (rIsET_v hh) takesF T.b_isinstance (by decide +kernel) (da_cons (dv 2) (da_cons (de_tup (da_cons (de_cls T.g_NoGoods) (da_cons (de_cls T.g_NoHand) (da_cons (de_cls T.g_NoMove) (da_cons (de_cls T.g_NoPiece) (da_cons (de_cls T.g_NoStand) (da_cons (de_cls T.g_NoWeb) da_nil))))))) da_nil))) (de_one (de_not (ve_callB (call_isE' hz hf) (rIsE_v hh) takesF T.b_isinstance (by decide +kernel) (da_cons (dv 2) (da_cons (de_ty (n := "ValueError") T.b_ValueError) da_nil)))))))
    (dss_one (ds_if (PW.pt (dw_or (dt_val (dv 3)) (dw_or1 (dt_not (dt_val (ve_callB (call_isE' hz hf) (rIsE_v hh) takesF T.b_isinstance (by decide +kernel) (da_cons (dv 2) (da_cons (de_cls T.g_EvenError) da_nil)))))))) (dss_one (ds_set (i := 1) sc__law_found.nd rfl (Or.inl rfl) de_str)) dss_nil)))))
    (dss_one (ds_ret (dv 1))))), fun ds μ qr Ex wf h => by
    obtain ⟨d, rfl, h⟩ := h
    simp only [bx_K, bx_P, bx_w, bx_mg, bx_base, dFnv, dCallL, dVar, dC, dK, dNil, dCons, dOp, dUn, dCB, dB, dNot, dAnd, dOr, dAndV, dOrV, dNotV, dIf, dChain, dNext, dSeq, dGh, dDrop, dRet, dRetN, dIfS, dBreak, dCont, hName, hNil, hCons, hTup, dAsg, dTup, dLst, dLstC, dCallG, vOp, vUn, vCB, vI, vIc, diL, diT, diR1, diR2, diLK, diS, dFor, dLc, dLcC, dYes, dPar, dDnewC, dDnew, dSl, dNoPart, dPart, dM1, vSplit, vJoin, dCM, vAppend, vExtend, vClear, vPop, vRev, hSubL, dRaise, vIx_str, vIx_tup, vIx_lst, vIx_lsk, vIx_cell, vAdd_int, vAdd_str, vAdd_ll, vAdd_lc, vAdd_cl, vAdd_cc, vLen_str, vLen_lst, vLen_lsk, vLen_tup, vLen_cell, asX_cell, asS_cell, asL_lst, asL_lsk, asX_lst, asS_lst, asS_lsk, asS_tup, vEqB_str, vEqB_int, vNeB_str, vNeB_int, vIsB, vI1, vI2, vAll, vAny, vSum, vIsi, vSlL, vSlS, resF, resC, startD, DEnds.of, List.map_cons, List.map_nil, List.length_cons, List.length_nil, List.replicate, List.cons_append, List.nil_append, List.append_nil, List.getElem?_cons_zero, List.getElem?_cons_succ, List.set_cons_zero, List.set_cons_succ, List.getElem?_nil, List.set_nil, Nat.reduceAdd, Nat.reduceSub, Nat.zero_add, Nat.sub_zero, Option.some.injEq, exists_eq_left', exists_eq_left, exists_and_left, exists_eq_right, true_and, and_true, D.str.injEq, D.int.injEq, D.bl.injEq, D.lst.injEq, D.tup.injEq, D.cell.injEq, D.dic.injEq, D.lsk.injEq, D.ty.injEq, D.ref.injEq, MO.lst.injEq, MO.dic.injEq, MO.dit.injEq, MO.ins.injEq, List.cons.injEq, reduceCtorEq, false_and, and_false, exists_false, or_false, false_or, if_true, if_false, ite_true, ite_false, Bool.false_eq_true, and_assoc, exists_const, exists_prop]
    simp only [dTryAs]
    simp only [bx_K, bx_P, bx_w, bx_mg, bx_base, dFnv, dCallL, dVar, dC, dK, dNil, dCons, dOp, dUn, dCB, dB, dNot, dAnd, dOr, dAndV, dOrV, dNotV, dIf, dChain, dNext, dSeq, dGh, dDrop, dRet, dRetN, dIfS, dBreak, dCont, hName, hNil, hCons, hTup, dAsg, dTup, dLst, dLstC, dCallG, vOp, vUn, vCB, vI, vIc, diL, diT, diR1, diR2, diLK, diS, dFor, dLc, dLcC, dYes, dPar, dDnewC, dDnew, dSl, dNoPart, dPart, dM1, vSplit, vJoin, dCM, vAppend, vExtend, vClear, vPop, vRev, hSubL, dRaise, vIx_str, vIx_tup, vIx_lst, vIx_lsk, vIx_cell, vAdd_int, vAdd_str, vAdd_ll, vAdd_lc, vAdd_cl, vAdd_cc, vLen_str, vLen_lst, vLen_lsk, vLen_tup, vLen_cell, asX_cell, asS_cell, asL_lst, asL_lsk, asX_lst, asS_lst, asS_lsk, asS_tup, vEqB_str, vEqB_int, vNeB_str, vNeB_int, vIsB, vI1, vI2, vAll, vAny, vSum, vIsi, vSlL, vSlS, resF, resC, startD, DEnds.of, List.map_cons, List.map_nil, List.length_cons, List.length_nil, List.replicate, List.cons_append, List.nil_append, List.append_nil, List.getElem?_cons_zero, List.getElem?_cons_succ, List.set_cons_zero, List.set_cons_succ, List.getElem?_nil, List.set_nil, Nat.reduceAdd, Nat.reduceSub, Nat.zero_add, Nat.sub_zero, Option.some.injEq, exists_eq_left', exists_eq_left, exists_and_left, exists_eq_right, true_and, and_true, D.str.injEq, D.int.injEq, D.bl.injEq, D.lst.injEq, D.tup.injEq, D.cell.injEq, D.dic.injEq, D.lsk.injEq, D.ty.injEq, D.ref.injEq, MO.lst.injEq, MO.dic.injEq, MO.dit.injEq, MO.ins.injEq, List.cons.injEq, reduceCtorEq, false_and, and_false, exists_false, or_false, false_or, if_true, if_false, ite_true, ite_false, Bool.false_eq_true, and_assoc, exists_const, exists_prop]
    have hx : qr (.val (.str "refused")) μ → ∃ b, PySem.W.exmOne K (.ref A.c_NoText) (.ref A.c_NoText) = some b ∧ b = true := fun _ => ⟨true, T.exm_NoText_NoText, rfl⟩
    rcases h with ⟨z, rfl, hz, h⟩ | ⟨s, hs, hk, he, h⟩
    · refine .inl ⟨z, rfl, hz, fun ms e => .same rfl ?_, fun e => ?_⟩
      · have : foundD z = .lst (ms.map tupD) := by unfold foundD; rw [e]
        rw [← this]; exact h
      have h' : qr (.val (.str "refused")) μ := by
        have : foundD z = .str "refused" := by unfold foundD; rw [e]
        rw [← this]; exact h
      refine ⟨true, T.exm_NoText_NoText, fun _ a => ⟨by decide, A.c_NoText, _, _, false, rfl, T.e_NoText, rfl, rfl, T.kita_NoText_NoGoods, ?_⟩, fun e => nomatch e⟩
      simp only [resF, resC, vIx_str, vIx_tup, vIx_lst, vIx_lsk, vIx_cell, vAdd_int, vAdd_str, vAdd_ll, vAdd_lc, vAdd_cl, vAdd_cc, vLen_str, vLen_lst, vLen_lsk, vLen_tup, vLen_cell, asX_cell, asS_cell, asL_lst, asL_lsk, asX_lst, asS_lst, asS_lsk, asS_tup, vEqB_str, vEqB_int, vNeB_str, vNeB_int, D.str.injEq, D.int.injEq, D.bl.injEq, D.lst.injEq, D.tup.injEq, D.cell.injEq, D.ref.injEq, MO.lst.injEq, List.cons.injEq, reduceCtorEq, false_and, and_false, exists_false, or_false, false_or, exists_eq_left', exists_eq_left, exists_and_left, exists_eq_right, true_and, and_true, Option.some.injEq, if_true, if_false, Bool.false_eq_true, and_assoc]
      refine ⟨A.c_NoText, _, _, true, rfl, T.e_NoText, rfl, rfl, T.kit_NoText_ValueError, ?_⟩
      simp only [resF, resC, vIx_str, vIx_tup, vIx_lst, vIx_lsk, vIx_cell, vAdd_int, vAdd_str, vAdd_ll, vAdd_lc, vAdd_cl, vAdd_cc, vLen_str, vLen_lst, vLen_lsk, vLen_tup, vLen_cell, asX_cell, asS_cell, asL_lst, asL_lsk, asX_lst, asS_lst, asS_lsk, asS_tup, vEqB_str, vEqB_int, vNeB_str, vNeB_int, D.str.injEq, D.int.injEq, D.bl.injEq, D.lst.injEq, D.tup.injEq, D.cell.injEq, D.ref.injEq, MO.lst.injEq, List.cons.injEq, reduceCtorEq, false_and, and_false, exists_false, or_false, false_or, exists_eq_left', exists_eq_left, exists_and_left, exists_eq_right, true_and, and_true, Option.some.injEq, if_true, if_false, Bool.false_eq_true, and_assoc]
      rw [if_neg (by decide)]
      refine ⟨A.c_NoText, _, _, true, rfl, T.e_NoText, rfl, rfl, T.kit_NoText_EvenError, ?_⟩
      simp only [resF, resC, vIx_str, vIx_tup, vIx_lst, vIx_lsk, vIx_cell, vAdd_int, vAdd_str, vAdd_ll, vAdd_lc, vAdd_cl, vAdd_cc, vLen_str, vLen_lst, vLen_lsk, vLen_tup, vLen_cell, asX_cell, asS_cell, asL_lst, asL_lsk, asX_lst, asS_lst, asS_lsk, asS_tup, vEqB_str, vEqB_int, vNeB_str, vNeB_int, D.str.injEq, D.int.injEq, D.bl.injEq, D.lst.injEq, D.tup.injEq, D.cell.injEq, D.ref.injEq, MO.lst.injEq, List.cons.injEq, reduceCtorEq, false_and, and_false, exists_false, or_false, false_or, exists_eq_left', exists_eq_left, exists_and_left, exists_eq_right, true_and, and_true, Option.some.injEq, if_true, if_false, Bool.false_eq_true, and_assoc]
      rw [if_neg (by decide)]
      exact .same rfl h'
    · refine .inr ⟨s, hs, hk, he, ?_⟩
      refine ⟨true, T.exm_NoText_NoText, fun _ a => ⟨by decide, A.c_NoText, _, _, false, rfl, T.e_NoText, rfl, rfl, T.kita_NoText_NoGoods, ?_⟩, fun e => nomatch e⟩
      simp only [resF, resC, vIx_str, vIx_tup, vIx_lst, vIx_lsk, vIx_cell, vAdd_int, vAdd_str, vAdd_ll, vAdd_lc, vAdd_cl, vAdd_cc, vLen_str, vLen_lst, vLen_lsk, vLen_tup, vLen_cell, asX_cell, asS_cell, asL_lst, asL_lsk, asX_lst, asS_lst, asS_lsk, asS_tup, vEqB_str, vEqB_int, vNeB_str, vNeB_int, D.str.injEq, D.int.injEq, D.bl.injEq, D.lst.injEq, D.tup.injEq, D.cell.injEq, D.ref.injEq, MO.lst.injEq, List.cons.injEq, reduceCtorEq, false_and, and_false, exists_false, or_false, false_or, exists_eq_left', exists_eq_left, exists_and_left, exists_eq_right, true_and, and_true, Option.some.injEq, if_true, if_false, Bool.false_eq_true, and_assoc]
      refine ⟨A.c_NoText, _, _, true, rfl, T.e_NoText, rfl, rfl, T.kit_NoText_ValueError, ?_⟩
      simp only [resF, resC, vIx_str, vIx_tup, vIx_lst, vIx_lsk, vIx_cell, vAdd_int, vAdd_str, vAdd_ll, vAdd_lc, vAdd_cl, vAdd_cc, vLen_str, vLen_lst, vLen_lsk, vLen_tup, vLen_cell, asX_cell, asS_cell, asL_lst, asL_lsk, asX_lst, asS_lst, asS_lsk, asS_tup, vEqB_str, vEqB_int, vNeB_str, vNeB_int, D.str.injEq, D.int.injEq, D.bl.injEq, D.lst.injEq, D.tup.injEq, D.cell.injEq, D.ref.injEq, MO.lst.injEq, List.cons.injEq, reduceCtorEq, false_and, and_false, exists_false, or_false, false_or, exists_eq_left', exists_eq_left, exists_and_left, exists_eq_right, true_and, and_true, Option.some.injEq, if_true, if_false, Bool.false_eq_true, and_assoc]
      rw [if_neg (by decide)]
      refine ⟨A.c_NoText, _, _, true, rfl, T.e_NoText, rfl, rfl, T.kit_NoText_EvenError, ?_⟩
      simp only [resF, resC, vIx_str, vIx_tup, vIx_lst, vIx_lsk, vIx_cell, vAdd_int, vAdd_str, vAdd_ll, vAdd_lc, vAdd_cl, vAdd_cc, vLen_str, vLen_lst, vLen_lsk, vLen_tup, vLen_cell, asX_cell, asS_cell, asL_lst, asL_lsk, asX_lst, asS_lst, asS_lsk, asS_tup, vEqB_str, vEqB_int, vNeB_str, vNeB_int, D.str.injEq, D.int.injEq, D.bl.injEq, D.lst.injEq, D.tup.injEq, D.cell.injEq, D.ref.injEq, MO.lst.injEq, List.cons.injEq, reduceCtorEq, false_and, and_false, exists_false, or_false, false_or, exists_eq_left', exists_eq_left, exists_and_left, exists_eq_right, true_and, and_true, Option.some.injEq, if_true, if_false, Bool.false_eq_true, and_assoc]
      rw [if_neg (by decide)]
      exact .same rfl h⟩
abbrev s__law_due : Stmt := (top 21)
theorem sc__law_due : FnScope ["_law_text", "_law_found_here", "_law_row", "_law_words", "_law_sign", "_law_word"] ["_law_text"] (defScope s__law_due) := ⟨rfl, rfl, rfl, by decide +kernel, rfl, by decide +kernel, by decide +kernel⟩
def sp__law_due (K : PySem.W.Frag) (A : Adr) : DSp := fun ds μ q Ex => ∃ z, ds = [.str z] ∧ z.length + 2 ≤ sizeLine ∧ PyData.strOk z = true ∧ (∀ ms, readM z = some ms → q (.fresh (.lst (ms.map tupD))) μ) ∧ (readM z = none → q (.val (.str "refused")) μ)
theorem ok__law_due (T : Txt K mg A) : DFn P w K mg base "_law_due" 1 1 (sp__law_due K A) := dfn (k := 0) T.f__law_due sc__law_due fun f cdv AA outer s H E hr =>
  ⟨_, (dss_cons (ds_set (i := 1) sc__law_due.nd rfl (Or.inl rfl) (de_lstC da_nil))
    (dss_cons (ds_if (vt_cmp (op_eqB hr.units) rEqB_v (dv 0) de_str) (dss_one (ds_ret (dv 1))) dss_nil)
    (dss_cons (ds_for (passes_of rfl) rfl (di_list (de_m1 PySem.F.slot_str_split PySem.F.type_str_split mt_split rSplit_v takesF (dv 0) de_str)) (dg_name (i := 2) sc__law_due.nd rfl (Or.inl rfl)) (dss_cons (ds_set (i := 3) sc__law_due.nd rfl (Or.inl rfl) (de_m1 PySem.F.slot_str_split PySem.F.type_str_split mt_split rSplit_v takesF (dv 2) de_str))
    (dss_cons (ds_if (PW.pt (dw_or (vt_cmp (op_neB hr.units) rNeB_v (ve_callB call_lenU rLenU_v takesF T.b_len (by decide +kernel) (da_cons (dv 3) da_nil)) de_int) (dw_or1 (dt_not (dt_val (ve_callB (cr_all rfl) rAll_v takesF T.b_all (by decide +kernel) (da_cons (de_lc (own := [("_law_word", 5)]) (pt := (.nm 5)) rfl sc__law_due.nd (di_list (dv 3)) (blkOk_by (own := [("_law_word", 5)]) (N := ["_law_text", "_law_found_here", "_law_row", "_law_words", "_law_sign", "_law_word"]) (sc := defScope s__law_due) (by decide +kernel)) (by decide) (fun _ _ _ _ _ => (pg_name (i := 5) sc__law_due.nd rfl (Or.inl rfl))) (fun _ _ _ _ _ => dts_nil) (fun _ _ _ _ _ => (de_chain op_le op_le rI0_bl rI0_bl de_int (ve_callB call_lenU rLenU_v takesF T.b_len (by decide +kernel) (da_cons (dv 5) da_nil)) de_int))) da_nil))))))) (dss_one (ds_ret de_str)) dss_nil)
    (dss_cons (ds_if (vt_cmp (op_neB hr.units) rNeB_v (de_lc (own := [("_law_sign", 4)]) (pt := (.nm 4)) rfl sc__law_due.nd (di_str (de_m1 PySem.F.slot_str_join PySem.F.type_str_join mt_join rJoin_v takesF de_str (dv 3))) (blkOk_by (own := [("_law_sign", 4)]) (N := ["_law_text", "_law_found_here", "_law_row", "_law_words", "_law_sign", "_law_word"]) (sc := defScope s__law_due) (by decide +kernel)) (by decide) (fun _ _ _ _ _ => (pg_name (i := 4) sc__law_due.nd rfl (Or.inl rfl))) (fun _ _ _ _ _ => (dts_one (vt_cmp (op_notInU (hu65 hr)) rNotInU_v (dv 4) de_str))) (fun _ _ _ _ _ => (dv 4))) (de_lst da_nil)) (dss_one (ds_ret de_str)) dss_nil)
    (dss_one (ds_expr (de_cm PySem.F.slot_list_append PySem.F.type_list_append mt_append rAppend_v (dv 1) (da_cons (ve_callTy call_tuple_of rTuple_v takesF T.b_tuple (by decide +kernel) (da_cons (dv 3) da_nil)) da_nil))))))))
    (dss_one (ds_ret (dv 1)))))), fun ds μ qr Ex wf h => by
    obtain ⟨z, rfl, hz, hz2, h1, h2⟩ := h
    have hL : 1000000 ≤ sizeLine := by decide
    simp only [bx_K, bx_P, bx_w, bx_mg, bx_base, dFnv, dCallL, dVar, dC, dK, dNil, dCons, dOp, dUn, dCB, dB, dNot, dAnd, dOr, dAndV, dOrV, dNotV, dIf, dChain, dNext, dSeq, dGh, dDrop, dRet, dRetN, dIfS, dBreak, dCont, hName, hNil, hCons, hTup, dAsg, dTup, dLst, dLstC, dCallG, vOp, vUn, vCB, vI, vIc, diL, diT, diR1, diR2, diLK, diS, dFor, dLc, dLcC, dYes, dPar, dDnewC, dDnew, dSl, dNoPart, dPart, dM1, vSplit, vJoin, dCM, vAppend, vExtend, vClear, vPop, vRev, hSubL, dRaise, vIx_str, vIx_tup, vIx_lst, vIx_lsk, vIx_cell, vAdd_int, vAdd_str, vAdd_ll, vAdd_lc, vAdd_cl, vAdd_cc, vLen_str, vLen_lst, vLen_lsk, vLen_tup, vLen_cell, asX_cell, asS_cell, asL_lst, asL_lsk, asX_lst, asS_lst, asS_lsk, asS_tup, vEqB_str, vEqB_int, vNeB_str, vNeB_int, vIsB, vI1, vI2, vAll, vAny, vSum, vIsi, vSlL, vSlS, resF, resC, startD, DEnds.of, List.map_cons, List.map_nil, List.length_cons, List.length_nil, List.replicate, List.cons_append, List.nil_append, List.append_nil, List.getElem?_cons_zero, List.getElem?_cons_succ, List.set_cons_zero, List.set_cons_succ, List.getElem?_nil, List.set_nil, Nat.reduceAdd, Nat.reduceSub, Nat.zero_add, Nat.sub_zero, Option.some.injEq, exists_eq_left', exists_eq_left, exists_and_left, exists_eq_right, true_and, and_true, D.str.injEq, D.int.injEq, D.bl.injEq, D.lst.injEq, D.tup.injEq, D.cell.injEq, D.dic.injEq, D.lsk.injEq, D.ty.injEq, D.ref.injEq, MO.lst.injEq, MO.dic.injEq, MO.dit.injEq, MO.ins.injEq, List.cons.injEq, reduceCtorEq, false_and, and_false, exists_false, or_false, false_or, if_true, if_false, ite_true, ite_false, Bool.false_eq_true, and_assoc, exists_const, exists_prop]
    refine ⟨by omega, ?_⟩
    by_cases e : z = Str.ofString ""
    · rw [if_pos (decide_eq_true e)]
      exact .new1 wf (by simp) rfl (h1 [] (by unfold readM; rw [if_pos e]))
    rw [if_neg (by simp [e])]
    have er : readM z = if (rowsS z).all wordsOk then some (rowsS z) else none := by unfold readM; rw [if_neg e]
    have hn := rows_len (z := z)
    refine ⟨⟨_, rfl⟩, rfl, hz, ?_⟩
    refine forR_inv (fun k ρ μ' => ∃ o2 o3, ρ = [some (.str z), some (.cell μ.length), o2, o3, none, none] ∧ μ' = μ ++ [.lst (((rowsS z).take k).map tupD)] ∧ ((rowsS z).take k).all wordsOk = true) ⟨none, none, rfl, rfl, rfl⟩ ?_ ?_
    · rintro k d ρ μ' hd ⟨o2, o3, rfl, rfl, hall⟩
      rw [List.getElem?_map] at hd
      cases e2 : (Txt.split z "\n")[k]? with
      | none => rw [e2] at hd; cases hd
      | some r =>
        rw [e2] at hd
        cases hd
        have hr := part_short (List.mem_of_getElem? e2)
        have ek : (rowsS z)[k]? = some (Txt.split r " ") := by unfold rowsS; rw [List.getElem?_map, e2]; rfl
        obtain ⟨l1, l2⟩ := rows_part (List.mem_of_getElem? ek)
        have nok : wordsOk (Txt.split r " ") = false → FinR μ qr (D.str "refused") (μ ++ [.lst (((rowsS z).take k).map tupD)]) := fun hw => .val wf rfl (h2 (by
          rw [er]
          have : (rowsS z).all wordsOk = false := by
            rw [List.all_eq_false]
            exact ⟨_, List.mem_of_getElem? ek, by simp [hw]⟩
          rw [this]; rfl))
        generalize hws : Txt.split r " " = ws at ek l1 l2 nok
        simp only [bx_K, bx_P, bx_w, bx_mg, bx_base, dFnv, dCallL, dVar, dC, dK, dNil, dCons, dOp, dUn, dCB, dB, dNot, dAnd, dOr, dAndV, dOrV, dNotV, dIf, dChain, dNext, dSeq, dGh, dDrop, dRet, dRetN, dIfS, dBreak, dCont, hName, hNil, hCons, hTup, dAsg, dTup, dLst, dLstC, dCallG, vOp, vUn, vCB, vI, vIc, diL, diT, diR1, diR2, diLK, diS, dFor, dLc, dLcC, dYes, dPar, dDnewC, dDnew, dSl, dNoPart, dPart, dM1, vSplit, vJoin, dCM, vAppend, vExtend, vClear, vPop, vRev, hSubL, dRaise, vIx_str, vIx_tup, vIx_lst, vIx_lsk, vIx_cell, vAdd_int, vAdd_str, vAdd_ll, vAdd_lc, vAdd_cl, vAdd_cc, vLen_str, vLen_lst, vLen_lsk, vLen_tup, vLen_cell, asX_cell, asS_cell, asL_lst, asL_lsk, asX_lst, asS_lst, asS_lsk, asS_tup, vEqB_str, vEqB_int, vNeB_str, vNeB_int, vIsB, vI1, vI2, vAll, vAny, vSum, vIsi, vSlL, vSlS, resF, resC, startD, DEnds.of, List.map_cons, List.map_nil, List.length_cons, List.length_nil, List.replicate, List.cons_append, List.nil_append, List.append_nil, List.getElem?_cons_zero, List.getElem?_cons_succ, List.set_cons_zero, List.set_cons_succ, List.getElem?_nil, List.set_nil, Nat.reduceAdd, Nat.reduceSub, Nat.zero_add, Nat.sub_zero, Option.some.injEq, exists_eq_left', exists_eq_left, exists_and_left, exists_eq_right, true_and, and_true, D.str.injEq, D.int.injEq, D.bl.injEq, D.lst.injEq, D.tup.injEq, D.cell.injEq, D.dic.injEq, D.lsk.injEq, D.ty.injEq, D.ref.injEq, MO.lst.injEq, MO.dic.injEq, MO.dit.injEq, MO.ins.injEq, List.cons.injEq, reduceCtorEq, false_and, and_false, exists_false, or_false, false_or, if_true, if_false, ite_true, ite_false, Bool.false_eq_true, and_assoc, exists_const, exists_prop]
        simp only [hws]
        refine ⟨⟨_, rfl⟩, rfl, by omega, ?_⟩
        by_cases e3 : ws.length = 3
        · rw [if_neg (by simp; omega)]
          refine lcR_map (fun w => D.bl (decide (1 ≤ w.length) && decide (w.length ≤ 8))) (by omega) (fun w hw Q2 hq2 => ?_) ?_
          · have := l2 w hw
            simp only [Pt.at, wipeD, List.set_cons_succ, List.set_cons_zero]
            simp only [bx_K, bx_P, bx_w, bx_mg, bx_base, dFnv, dCallL, dVar, dC, dK, dNil, dCons, dOp, dUn, dCB, dB, dNot, dAnd, dOr, dAndV, dOrV, dNotV, dIf, dChain, dNext, dSeq, dGh, dDrop, dRet, dRetN, dIfS, dBreak, dCont, hName, hNil, hCons, hTup, dAsg, dTup, dLst, dLstC, dCallG, vOp, vUn, vCB, vI, vIc, diL, diT, diR1, diR2, diLK, diS, dFor, dLc, dLcC, dYes, dPar, dDnewC, dDnew, dSl, dNoPart, dPart, dM1, vSplit, vJoin, dCM, vAppend, vExtend, vClear, vPop, vRev, hSubL, dRaise, vIx_str, vIx_tup, vIx_lst, vIx_lsk, vIx_cell, vAdd_int, vAdd_str, vAdd_ll, vAdd_lc, vAdd_cl, vAdd_cc, vLen_str, vLen_lst, vLen_lsk, vLen_tup, vLen_cell, asX_cell, asS_cell, asL_lst, asL_lsk, asX_lst, asS_lst, asS_lsk, asS_tup, vEqB_str, vEqB_int, vNeB_str, vNeB_int, vIsB, vI1, vI2, vAll, vAny, vSum, vIsi, vSlL, vSlS, resF, resC, startD, DEnds.of, List.map_cons, List.map_nil, List.length_cons, List.length_nil, List.replicate, List.cons_append, List.nil_append, List.append_nil, List.getElem?_cons_zero, List.getElem?_cons_succ, List.set_cons_zero, List.set_cons_succ, List.getElem?_nil, List.set_nil, Nat.reduceAdd, Nat.reduceSub, Nat.zero_add, Nat.sub_zero, Option.some.injEq, exists_eq_left', exists_eq_left, exists_and_left, exists_eq_right, true_and, and_true, D.str.injEq, D.int.injEq, D.bl.injEq, D.lst.injEq, D.tup.injEq, D.cell.injEq, D.dic.injEq, D.lsk.injEq, D.ty.injEq, D.ref.injEq, MO.lst.injEq, MO.dic.injEq, MO.dit.injEq, MO.ins.injEq, List.cons.injEq, reduceCtorEq, false_and, and_false, exists_false, or_false, false_or, if_true, if_false, ite_true, ite_false, Bool.false_eq_true, and_assoc, exists_const, exists_prop]
            refine ⟨by omega, ?_⟩
            by_cases e6 : 1 ≤ w.length
            · rw [if_pos (decide_eq_true (by omega))]
              rw [decide_eq_true e6, Bool.true_and] at hq2
              have : (decide ((w.length : Int) ≤ 8)) = decide (w.length ≤ 8) := by
                rw [decide_eq_decide]; omega
              rw [this]; exact hq2
            · rw [if_neg (by simp; omega)]
              rw [decide_eq_false e6, Bool.false_and] at hq2
              exact hq2
          · refine ⟨_, bls_of, ?_⟩
            have ea : (ws.map fun w => decide (1 ≤ w.length) && decide (w.length ≤ 8)).all id = ws.all fun w => decide (1 ≤ w.length) && decide (w.length ≤ 8) := by rw [List.all_map]; rfl
            rw [ea]
            have eall := all_len (ws := ws)
            rw [decide_eq_true e3, Bool.true_and] at eall
            cases hlen : ws.all fun w => decide (1 ≤ w.length) && decide (w.length ≤ 8) with
            | false =>
              rw [if_pos (by decide)]
              exact nok (by rw [eall, hlen]; rfl)
            | true =>
              rw [if_neg (by decide)]
              rw [hlen, Bool.true_and] at eall
              have hl8 : ∀ w ∈ ws, w.length ≤ 8 := fun w hw => by
                have := List.all_eq_true.mp hlen w hw
                simp at this; exact this.2
              have hsum := sum_le hl8
              refine ⟨⟨_, rfl⟩, ws, strsD_map ws, by rw [show (Str.ofString "").length = 0 from rfl]; omega, ?_⟩
              have hjl := tjoin_le (Str.ofString "") ws
              rw [show (Str.ofString "").length = 0 from rfl] at hjl
              have hjc := join0_cps ws
              generalize Txt.join (Str.ofString "") ws = J at hjl hjc ⊢
              unfold signsD
              refine lcR_filter (fun c => !decide (c ∈ letters.cps.toList)) (fun c => D.str ⟨#[c]⟩) (by have : J.cps.toList.length = J.length := Array.length_toList
                                                                                                        omega) (fun c hc Kt Kf h1 h2 => ?_) ?_
              · simp only [Pt.at, wipeD, List.set_cons_succ, List.set_cons_zero]
                simp only [bx_K, bx_P, bx_w, bx_mg, bx_base, dFnv, dCallL, dVar, dC, dK, dNil, dCons, dOp, dUn, dCB, dB, dNot, dAnd, dOr, dAndV, dOrV, dNotV, dIf, dChain, dNext, dSeq, dGh, dDrop, dRet, dRetN, dIfS, dBreak, dCont, hName, hNil, hCons, hTup, dAsg, dTup, dLst, dLstC, dCallG, vOp, vUn, vCB, vI, vIc, diL, diT, diR1, diR2, diLK, diS, dFor, dLc, dLcC, dYes, dPar, dDnewC, dDnew, dSl, dNoPart, dPart, dM1, vSplit, vJoin, dCM, vAppend, vExtend, vClear, vPop, vRev, hSubL, dRaise, vIx_str, vIx_tup, vIx_lst, vIx_lsk, vIx_cell, vAdd_int, vAdd_str, vAdd_ll, vAdd_lc, vAdd_cl, vAdd_cc, vLen_str, vLen_lst, vLen_lsk, vLen_tup, vLen_cell, asX_cell, asS_cell, asL_lst, asL_lsk, asX_lst, asS_lst, asS_lsk, asS_tup, vEqB_str, vEqB_int, vNeB_str, vNeB_int, vIsB, vI1, vI2, vAll, vAny, vSum, vIsi, vSlL, vSlS, resF, resC, startD, DEnds.of, List.map_cons, List.map_nil, List.length_cons, List.length_nil, List.replicate, List.cons_append, List.nil_append, List.append_nil, List.getElem?_cons_zero, List.getElem?_cons_succ, List.set_cons_zero, List.set_cons_succ, List.getElem?_nil, List.set_nil, Nat.reduceAdd, Nat.reduceSub, Nat.zero_add, Nat.sub_zero, Option.some.injEq, exists_eq_left', exists_eq_left, exists_and_left, exists_eq_right, true_and, and_true, D.str.injEq, D.int.injEq, D.bl.injEq, D.lst.injEq, D.tup.injEq, D.cell.injEq, D.dic.injEq, D.lsk.injEq, D.ty.injEq, D.ref.injEq, MO.lst.injEq, MO.dic.injEq, MO.dit.injEq, MO.ins.injEq, List.cons.injEq, reduceCtorEq, false_and, and_false, exists_false, or_false, false_or, if_true, if_false, ite_true, ite_false, Bool.false_eq_true, and_assoc, exists_const, exists_prop]
                rw [vInU_sign]
                refine ⟨c, rfl, ?_⟩
                simp only [resF, resC, vIx_str, vIx_tup, vIx_lst, vIx_lsk, vIx_cell, vAdd_int, vAdd_str, vAdd_ll, vAdd_lc, vAdd_cl, vAdd_cc, vLen_str, vLen_lst, vLen_lsk, vLen_tup, vLen_cell, asX_cell, asS_cell, asL_lst, asL_lsk, asX_lst, asS_lst, asS_lsk, asS_tup, vEqB_str, vEqB_int, vNeB_str, vNeB_int, D.str.injEq, D.int.injEq, D.bl.injEq, D.lst.injEq, D.tup.injEq, D.cell.injEq, D.ref.injEq, MO.lst.injEq, List.cons.injEq, reduceCtorEq, false_and, and_false, exists_false, or_false, false_or, exists_eq_left', exists_eq_left, exists_and_left, exists_eq_right, true_and, and_true, Option.some.injEq, if_true, if_false, Bool.false_eq_true, and_assoc]
                split
                · exact h1 (by assumption)
                · rename_i hne
                  exact h2 (by simpa [letters] using hne)
              · refine ⟨by omega, ?_⟩
                have hok : ∀ c ∈ ws.flatMap fun w => w.cps.toList, c < 1114112 := by
                  intro c hc
                  obtain ⟨w, hw, hc⟩ := List.mem_flatMap.mp hc
                  rw [← hws] at hw
                  exact strOk_iff.mp hz2 c (split_mem (List.mem_of_getElem? e2) (split_mem hw hc))
                cases hf : J.cps.toList.filter fun c => !decide (c ∈ letters.cps.toList) with
                | nil =>
                  refine .inr ⟨by rfl, by rfl, ?_⟩
                  simp only [resF, resC, vIx_str, vIx_tup, vIx_lst, vIx_lsk, vIx_cell, vAdd_int, vAdd_str, vAdd_ll, vAdd_lc, vAdd_cl, vAdd_cc, vLen_str, vLen_lst, vLen_lsk, vLen_tup, vLen_cell, asX_cell, asS_cell, asL_lst, asL_lsk, asX_lst, asS_lst, asS_lsk, asS_tup, vEqB_str, vEqB_int, vNeB_str, vNeB_int, D.str.injEq, D.int.injEq, D.bl.injEq, D.lst.injEq, D.tup.injEq, D.cell.injEq, D.ref.injEq, MO.lst.injEq, List.cons.injEq, reduceCtorEq, false_and, and_false, exists_false, or_false, false_or, exists_eq_left', exists_eq_left, exists_and_left, exists_eq_right, true_and, and_true, Option.some.injEq, if_true, if_false, Bool.false_eq_true, and_assoc]
                  rw [if_neg (by simp [DL.seen, deq_lst])]
                  have hk := (List.getElem?_eq_some_iff.mp ek).1
                  have hw1 : wordsOk ws = true := by
                    rw [eall, ← hjc, List.all_eq_true]
                    intro c hc
                    rcases Classical.em (c ∈ letters.cps.toList) with h | h
                    · exact decide_eq_true h
                    · have : c ∈ J.cps.toList.filter fun c => !decide (c ∈ letters.cps.toList) := List.mem_filter.mpr ⟨hc, by rw [decide_eq_false h]; rfl⟩
                      rw [hf] at this
                      cases this
                  refine ⟨_, get_app rfl, _, _, rfl, rfl, ?_⟩
                  simp only [resF, resC, vIx_str, vIx_tup, vIx_lst, vIx_lsk, vIx_cell, vAdd_int, vAdd_str, vAdd_ll, vAdd_lc, vAdd_cl, vAdd_cc, vLen_str, vLen_lst, vLen_lsk, vLen_tup, vLen_cell, asX_cell, asS_cell, asL_lst, asL_lsk, asX_lst, asS_lst, asS_lsk, asS_tup, vEqB_str, vEqB_int, vNeB_str, vNeB_int, D.str.injEq, D.int.injEq, D.bl.injEq, D.lst.injEq, D.tup.injEq, D.cell.injEq, D.ref.injEq, MO.lst.injEq, List.cons.injEq, reduceCtorEq, false_and, and_false, exists_false, or_false, false_or, exists_eq_left', exists_eq_left, exists_and_left, exists_eq_right, true_and, and_true, Option.some.injEq, if_true, if_false, Bool.false_eq_true, and_assoc]
                  refine ⟨_, get_app rfl, by rw [List.length_map, List.length_take]; omega, ?_, ?_⟩
                  · rw [set_app rfl, List.take_succ, ek, List.map_append]
                    rfl
                  · rw [List.take_succ, ek, List.all_append, hall]
                    simp [hw1]
                | cons c cs =>
                  have hm : c ∈ J.cps.toList.filter fun c => !decide (c ∈ letters.cps.toList) := by rw [hf]; exact List.mem_cons_self
                  have hm2 := List.mem_filter.mp hm
                  refine .inr ⟨?_, by rfl, ?_⟩
                  · show D.okL 63 _ = true
                    refine okL_map _ fun a ha => ?_
                    rw [← hf] at ha
                    have := hok a (by rw [← hjc]; exact (List.mem_filter.mp ha).1)
                    simp only [D.ok]
                    exact strOk_iff.mpr fun x hx => by
                      have : x = a := by simpa using hx
                      omega
                  · simp only [resF, resC, vIx_str, vIx_tup, vIx_lst, vIx_lsk, vIx_cell, vAdd_int, vAdd_str, vAdd_ll, vAdd_lc, vAdd_cl, vAdd_cc, vLen_str, vLen_lst, vLen_lsk, vLen_tup, vLen_cell, asX_cell, asS_cell, asL_lst, asL_lsk, asX_lst, asS_lst, asS_lsk, asS_tup, vEqB_str, vEqB_int, vNeB_str, vNeB_int, D.str.injEq, D.int.injEq, D.bl.injEq, D.lst.injEq, D.tup.injEq, D.cell.injEq, D.ref.injEq, MO.lst.injEq, List.cons.injEq, reduceCtorEq, false_and, and_false, exists_false, or_false, false_or, exists_eq_left', exists_eq_left, exists_and_left, exists_eq_right, true_and, and_true, Option.some.injEq, if_true, if_false, Bool.false_eq_true, and_assoc]
                    rw [if_pos (by simp [DL.seen, deq_lst])]
                    refine nok ?_
                    rw [eall, ← hjc, List.all_eq_false]
                    exact ⟨c, hm2.1, by simpa using hm2.2⟩
        · rw [if_pos (by simp; omega)]
          exact nok (by unfold wordsOk; rw [decide_eq_false e3]; rfl)
    · rintro ρ μ' ⟨o2, o3, rfl, rfl, hall⟩
      have e5 : (Txt.split z "\n").length = (rowsS z).length := by unfold rowsS; rw [List.length_map]
      rw [List.length_map, e5, List.take_length] at hall
      rw [List.length_map, e5, List.take_length]
      simp only [bx_K, bx_P, bx_w, bx_mg, bx_base, dFnv, dCallL, dVar, dC, dK, dNil, dCons, dOp, dUn, dCB, dB, dNot, dAnd, dOr, dAndV, dOrV, dNotV, dIf, dChain, dNext, dSeq, dGh, dDrop, dRet, dRetN, dIfS, dBreak, dCont, hName, hNil, hCons, hTup, dAsg, dTup, dLst, dLstC, dCallG, vOp, vUn, vCB, vI, vIc, diL, diT, diR1, diR2, diLK, diS, dFor, dLc, dLcC, dYes, dPar, dDnewC, dDnew, dSl, dNoPart, dPart, dM1, vSplit, vJoin, dCM, vAppend, vExtend, vClear, vPop, vRev, hSubL, dRaise, vIx_str, vIx_tup, vIx_lst, vIx_lsk, vIx_cell, vAdd_int, vAdd_str, vAdd_ll, vAdd_lc, vAdd_cl, vAdd_cc, vLen_str, vLen_lst, vLen_lsk, vLen_tup, vLen_cell, asX_cell, asS_cell, asL_lst, asL_lsk, asX_lst, asS_lst, asS_lsk, asS_tup, vEqB_str, vEqB_int, vNeB_str, vNeB_int, vIsB, vI1, vI2, vAll, vAny, vSum, vIsi, vSlL, vSlS, resF, resC, startD, DEnds.of, List.map_cons, List.map_nil, List.length_cons, List.length_nil, List.replicate, List.cons_append, List.nil_append, List.append_nil, List.getElem?_cons_zero, List.getElem?_cons_succ, List.set_cons_zero, List.set_cons_succ, List.getElem?_nil, List.set_nil, Nat.reduceAdd, Nat.reduceSub, Nat.zero_add, Nat.sub_zero, Option.some.injEq, exists_eq_left', exists_eq_left, exists_and_left, exists_eq_right, true_and, and_true, D.str.injEq, D.int.injEq, D.bl.injEq, D.lst.injEq, D.tup.injEq, D.cell.injEq, D.dic.injEq, D.lsk.injEq, D.ty.injEq, D.ref.injEq, MO.lst.injEq, MO.dic.injEq, MO.dit.injEq, MO.ins.injEq, List.cons.injEq, reduceCtorEq, false_and, and_false, exists_false, or_false, false_or, if_true, if_false, ite_true, ite_false, Bool.false_eq_true, and_assoc, exists_const, exists_prop]
      exact .new1 wf (by simp) cl_tups (h1 _ (by rw [er, hall]; rfl))⟩
abbrev s__law_spoiled : Stmt := (top 22)
theorem sc__law_spoiled : FnScope ["_law_state", "_law_text", "_law_signs", "_law_place", "_law_sign", "_law_some"] ["_law_state", "_law_text"] (defScope s__law_spoiled) := ⟨rfl, rfl, rfl, by decide +kernel, rfl, by decide +kernel, by decide +kernel⟩
def sp__law_spoiled (K : PySem.W.Frag) (A : Adr) : DSp := fun ds μ q Ex => ∃ i z, ds = [.cell i, .str z] ∧ St13 μ i ∧ z.length ≤ 100000 ∧ PyData.strOk z = true ∧ ∀ z' μ', Up3 i μ μ' → z'.length ≤ 1000000 → PyData.strOk z' = true → q (.val (.str z')) μ'
theorem ok__law_spoiled (T : Txt K mg A) : DFn P w K mg base "_law_spoiled" 2 2 (sp__law_spoiled K A) := dfn (k := 1) T.f__law_spoiled sc__law_spoiled fun f cdv AA outer s H E hr =>
  ⟨_, (dss_cons (ds_set (i := 2) sc__law_spoiled.nd rfl (Or.inl rfl) de_str)
    (dss_cons (ds_set (i := 3) sc__law_spoiled.nd rfl (Or.inl rfl) (de_callG takesF (ok__law_digit T) (hr.mono (by decide)) (takes_of rfl rfl rfl rfl) (da_cons (dv 0) (da_cons (ve_op op_addU rAdd_v takesF (ve_callB call_lenU rLenU_v takesF T.b_len (by decide +kernel) (da_cons (dv 1) da_nil)) de_int) da_nil))))
    (dss_cons (ds_set (i := 4) sc__law_spoiled.nd rfl (Or.inl rfl) (ve_ix ix_seq rIx_v (dv 2) (de_callG takesF (ok__law_digit T) (hr.mono (by decide)) (takes_of rfl rfl rfl rfl) (da_cons (dv 0) (da_cons de_int da_nil)))))
    (dss_cons (ds_set (i := 5) sc__law_spoiled.nd rfl (Or.inl rfl) (de_lst (da_cons (ve_op op_addU rAdd_v takesF (ve_op op_addU rAdd_v takesF (de_slice sl_str rSlS_v takesF (dv 1) do_none (do_some (dv 3))) (dv 4)) (de_slice sl_str rSlS_v takesF (dv 1) (do_some (dv 3)) do_none)) (da_cons (ve_op op_addU rAdd_v takesF (ve_op op_addU rAdd_v takesF (de_slice sl_str rSlS_v takesF (dv 1) do_none (do_some (dv 3))) (dv 4)) (de_slice sl_str rSlS_v takesF (dv 1) (do_some (ve_op op_addU rAdd_v takesF (dv 3) de_int)) do_none)) (da_cons (ve_op op_addU rAdd_v takesF (de_slice sl_str rSlS_v takesF (dv 1) do_none (do_some (dv 3))) (de_slice sl_str rSlS_v takesF (dv 1) (do_some (ve_op op_addU rAdd_v takesF (dv 3) de_int)) do_none)) da_nil)))))
    (dss_cons (ds_set (i := 5) sc__law_spoiled.nd rfl (Or.inl rfl) (ve_op op_addU rAdd_v takesF (dv 5) (de_lst (da_cons (ve_op op_addU rAdd_v takesF (dv 1) de_str) (da_cons (ve_op op_addU rAdd_v takesF de_str (dv 1)) (da_cons (ve_op op_addU rAdd_v takesF (dv 1) de_str) (da_cons (ve_op op_addU rAdd_v takesF (dv 1) de_str) (da_cons de_str (da_cons (de_slice sl_str rSlS_v takesF (dv 1) do_none (do_some (dv 3))) da_nil)))))))))
    (dss_cons (ds_set (i := 5) sc__law_spoiled.nd rfl (Or.inl rfl) (ve_op op_addU rAdd_v takesF (dv 5) (de_lst (da_cons (ve_op op_addU rAdd_v takesF (ve_op op_addU rAdd_v takesF (de_slice sl_str rSlS_v takesF (dv 1) do_none (do_some (dv 3))) de_str) (de_slice sl_str rSlS_v takesF (dv 1) (do_some (dv 3)) do_none)) (da_cons (ve_op op_addU rAdd_v takesF (ve_op op_addU rAdd_v takesF (de_slice sl_str rSlS_v takesF (dv 1) do_none (do_some (dv 3))) de_str) (de_slice sl_str rSlS_v takesF (dv 1) (do_some (dv 3)) do_none)) (da_cons (ve_op op_addU rAdd_v takesF (dv 1) de_str) da_nil))))))
    (dss_one (ds_ret (ve_ix ix_seq rIx_v (dv 5) (de_callG takesF (ok__law_digit T) (hr.mono (by decide)) (takes_of rfl rfl rfl rfl) (da_cons (dv 0) (da_cons (ve_callB call_lenU rLenU_v takesF T.b_len (by decide +kernel) (da_cons (dv 5) da_nil)) da_nil)))))))))))), fun ds μ qr Ex wf h => by
    obtain ⟨i, z, rfl, st, hz, hk, h⟩ := h
    have hi := st.lt
    have hL : 1000000 ≤ sizeLine := by decide
    simp only [bx_K, bx_P, bx_w, bx_mg, bx_base, dFnv, dCallL, dVar, dC, dK, dNil, dCons, dOp, dUn, dCB, dB, dNot, dAnd, dOr, dAndV, dOrV, dNotV, dIf, dChain, dNext, dSeq, dGh, dDrop, dRet, dRetN, dIfS, dBreak, dCont, hName, hNil, hCons, hTup, dAsg, dTup, dLst, dLstC, dCallG, vOp, vUn, vCB, vI, vIc, diL, diT, diR1, diR2, diLK, diS, dFor, dLc, dLcC, dYes, dPar, dDnewC, dDnew, dSl, dNoPart, dPart, dM1, vSplit, vJoin, dCM, vAppend, vExtend, vClear, vPop, vRev, hSubL, dRaise, vIx_str, vIx_tup, vIx_lst, vIx_lsk, vIx_cell, vAdd_int, vAdd_str, vAdd_ll, vAdd_lc, vAdd_cl, vAdd_cc, vLen_str, vLen_lst, vLen_lsk, vLen_tup, vLen_cell, asX_cell, asS_cell, asL_lst, asL_lsk, asX_lst, asS_lst, asS_lsk, asS_tup, vEqB_str, vEqB_int, vNeB_str, vNeB_int, vIsB, vI1, vI2, vAll, vAny, vSum, vIsi, vSlL, vSlS, resF, resC, startD, DEnds.of, List.map_cons, List.map_nil, List.length_cons, List.length_nil, List.replicate, List.cons_append, List.nil_append, List.append_nil, List.getElem?_cons_zero, List.getElem?_cons_succ, List.set_cons_zero, List.set_cons_succ, List.getElem?_nil, List.set_nil, Nat.reduceAdd, Nat.reduceSub, Nat.zero_add, Nat.sub_zero, Option.some.injEq, exists_eq_left', exists_eq_left, exists_and_left, exists_eq_right, true_and, and_true, D.str.injEq, D.int.injEq, D.bl.injEq, D.lst.injEq, D.tup.injEq, D.cell.injEq, D.dic.injEq, D.lsk.injEq, D.ty.injEq, D.ref.injEq, MO.lst.injEq, MO.dic.injEq, MO.dit.injEq, MO.ins.injEq, List.cons.injEq, reduceCtorEq, false_and, and_false, exists_false, or_false, false_or, if_true, if_false, ite_true, ite_false, Bool.false_eq_true, and_assoc, exists_const, exists_prop]
    refine ⟨by omega, i, _, rfl, st, by omega, by omega, fun at' μ1 u1 ha0 ha1 => ?_⟩
    simp only [resF, resC, vIx_str, vIx_tup, vIx_lst, vIx_lsk, vIx_cell, vAdd_int, vAdd_str, vAdd_ll, vAdd_lc, vAdd_cl, vAdd_cc, vLen_str, vLen_lst, vLen_lsk, vLen_tup, vLen_cell, asX_cell, asS_cell, asL_lst, asL_lsk, asX_lst, asS_lst, asS_lsk, asS_tup, vEqB_str, vEqB_int, vNeB_str, vNeB_int, D.str.injEq, D.int.injEq, D.bl.injEq, D.lst.injEq, D.tup.injEq, D.cell.injEq, D.ref.injEq, MO.lst.injEq, List.cons.injEq, reduceCtorEq, false_and, and_false, exists_false, or_false, false_or, exists_eq_left', exists_eq_left, exists_and_left, exists_eq_right, true_and, and_true, Option.some.injEq, if_true, if_false, Bool.false_eq_true, and_assoc]
    refine ⟨i, 94, rfl, .inr (Up3.st2 u1 hi), by decide, by decide, fun sg μ2 u2 hs0 hs1 => ?_⟩
    have v2 := u1.trans u2
    simp only [resF, resC, vIx_str, vIx_tup, vIx_lst, vIx_lsk, vIx_cell, vAdd_int, vAdd_str, vAdd_ll, vAdd_lc, vAdd_cl, vAdd_cc, vLen_str, vLen_lst, vLen_lsk, vLen_tup, vLen_cell, asX_cell, asS_cell, asL_lst, asL_lsk, asX_lst, asS_lst, asS_lsk, asS_tup, vEqB_str, vEqB_int, vNeB_str, vNeB_int, D.str.injEq, D.int.injEq, D.bl.injEq, D.lst.injEq, D.tup.injEq, D.cell.injEq, D.ref.injEq, MO.lst.injEq, List.cons.injEq, reduceCtorEq, false_and, and_false, exists_false, or_false, false_or, exists_eq_left', exists_eq_left, exists_and_left, exists_eq_right, true_and, and_true, Option.some.injEq, if_true, if_false, Bool.false_eq_true, and_assoc]
    obtain ⟨c, hc, hcm⟩ := atI_in (xs := (" !\"#$&'()*+,-./0123456789:;<=>?@ABCDEFGHIJKLMNOPQRSTUVWXYZ[\\]^_`abcdefghijklmnopqrstuvwxyz{|}~" : Str).cps.toList) (i := sg) hs0 (show sg < 94 by exact hs1)
    have k1 : ("\n" : Str).length = 1 := rfl
    have k2 : (" a" : Str).length = 2 := rfl
    have k3 : ("\n\na b c" : Str).length = 7 := rfl
    have k4 : (" " : Str).length = 1 := rfl
    have k5 : ("\na b c d" : Str).length = 8 := rfl
    have k6 : (⟨#[c]⟩ : Str).length = 1 := rfl
    have k7 : ("a b abcdefghi" : Str).length = 13 := rfl
    have a1 := cutS_length z none (some at')
    have a2 := cutS_length z (some at') none
    have a3 := cutS_length z (some (at' + 1)) none
    refine ⟨by decide, c, hc, ?_⟩
    simp only [Str.length_append, k1, k2, k3, k4, k5, k6]
    iterate 28 refine ⟨by omega, ?_⟩
    refine ⟨by omega, by omega, i, 12, rfl, .inr (Up3.st2 v2 hi), by decide, by decide, fun no μ3 u3 h0 h12 => ?_⟩
    have v3 := v2.trans u3
    simp only [resF, resC, vIx_str, vIx_tup, vIx_lst, vIx_lsk, vIx_cell, vAdd_int, vAdd_str, vAdd_ll, vAdd_lc, vAdd_cl, vAdd_cc, vLen_str, vLen_lst, vLen_lsk, vLen_tup, vLen_cell, asX_cell, asS_cell, asL_lst, asL_lsk, asX_lst, asS_lst, asS_lsk, asS_tup, vEqB_str, vEqB_int, vNeB_str, vNeB_int, D.str.injEq, D.int.injEq, D.bl.injEq, D.lst.injEq, D.tup.injEq, D.cell.injEq, D.ref.injEq, MO.lst.injEq, List.cons.injEq, reduceCtorEq, false_and, and_false, exists_false, or_false, false_or, exists_eq_left', exists_eq_left, exists_and_left, exists_eq_right, true_and, and_true, Option.some.injEq, if_true, if_false, Bool.false_eq_true, and_assoc]
    have hck : PyData.strOk ⟨#[c]⟩ = true := strOk_iff.mpr fun x hx => by
      have e : x = c := by simpa using hx
      rw [e]
      exact (show ∀ c ∈ (" !\"#$&'()*+,-./0123456789:;<=>?@ABCDEFGHIJKLMNOPQRSTUVWXYZ[\\]^_`abcdefghijklmnopqrstuvwxyz{|}~" : Str).cps.toList, c < 1114112 by decide) c hcm
    have key : ∀ L : List D, L.length = 12 → (∀ d ∈ L, ∃ z', d = .str z' ∧ z'.length ≤ 1000000 ∧ PyData.strOk z' = true) → ∃ x, atI L no = some x ∧ FinR μ qr x μ3 := fun L hl hL => by
      obtain ⟨d, hd, hm⟩ := atI_in (xs := L) (i := no) h0 (by omega)
      obtain ⟨z', rfl, h1, h2⟩ := hL d hm
      exact ⟨_, hd, .same v3.len (h z' _ v3 h1 h2)⟩
    refine key _ rfl ?_
    simp only [List.mem_cons, List.not_mem_nil, or_false]
    rintro d (rfl | rfl | rfl | rfl | rfl | rfl | rfl | rfl | rfl | rfl | rfl | rfl) <;> refine ⟨_, rfl, by (try simp only [Str.length_append, k1, k2, k3, k4, k5, k6, k7]); omega, ?_⟩ <;> repeat' first | exact hk | exact hck | apply strOk_app | apply strOk_cut | exact strOk_iff.mpr (by decide)⟩
abbrev s_law : Stmt := (top 23)
theorem sc_law : FnScope ["_law_script", "_law_state", "_law_moves", "_law_k", "_law_text", "_law_kept", "_law_told", "_law_odd", "_law_move"] ["_law_script"] (defScope s_law) := ⟨rfl, rfl, rfl, by decide +kernel, rfl, by decide +kernel, by decide +kernel⟩

theorem ok_law (T : Txt K mg A) {f : Addr} {fd : FuncData} (F : Fun K "law" "law" (top 23) f fd) : FnOk P w K mg base (L2.CX P w) 4 f fd ["_law_script"] (liftSp K 1 spLaw) := fn_ok (k := 3) F sc_law fun cdv AA outer s H E hr =>
  ⟨_, (dss_cons (ds_set (i := 1) sc_law.nd rfl (Or.inl rfl) (de_lstC (da_cons (de_callG takesF (ok__law_cell_at T) (hr.mono (by decide)) (takes_of rfl rfl rfl rfl) (da_cons (dv 0) (da_cons de_int da_nil))) da_nil)))
    (dss_cons (ds_set (i := 2) sc_law.nd rfl (Or.inl rfl) (de_lstC da_nil))
    (dss_cons (ds_gh (ds_for (passes_of rfl) rfl (di_range1 T.b_range (da_cons (de_callG takesF (ok__law_digit T) (hr.mono (by decide)) (takes_of rfl rfl rfl rfl) (da_cons (dv 1) (da_cons (ve_ix ix_seq rIx_v (de_lst (da_cons de_int (da_cons de_int da_nil))) (de_callG takesF (ok__law_digit T) (hr.mono (by decide)) (takes_of rfl rfl rfl rfl) (da_cons (dv 1) (da_cons de_int da_nil)))) da_nil))) da_nil)) (dg_name (i := 3) sc_law.nd rfl (Or.inl rfl)) (dss_one (ds_if (PW.pt (dw_and (vt_cmp (op_neB hr.units) rNeB_v (dv 2) (de_lst da_nil)) (dw_and1 (vt_cmp (op_eqB hr.units) rEqB_v (de_callG takesF (ok__law_digit T) (hr.mono (by decide)) (takes_of rfl rfl rfl rfl) (da_cons (dv 1) (da_cons de_int da_nil))) de_int)))) (dss_one (ds_expr (de_cm PySem.F.slot_list_append PySem.F.type_list_append mt_append rAppend_v (dv 2) (da_cons (ve_ix ix_seq rIx_v (dv 2) (de_callG takesF (ok__law_digit T) (hr.mono (by decide)) (takes_of rfl rfl rfl rfl) (da_cons (dv 1) (da_cons (ve_callB call_lenU rLenU_v takesF T.b_len (by decide +kernel) (da_cons (dv 2) da_nil)) da_nil)))) da_nil)))) (dss_one (ds_expr (de_cm PySem.F.slot_list_append PySem.F.type_list_append mt_append rAppend_v (dv 2) (da_cons (de_tup (da_cons (de_callG takesF (ok__law_name T) (hr.mono (by decide)) (takes_of rfl rfl rfl rfl) (da_cons (dv 1) da_nil)) (da_cons (de_callG takesF (ok__law_name T) (hr.mono (by decide)) (takes_of rfl rfl rfl rfl) (da_cons (dv 1) da_nil)) (da_cons (de_callG takesF (ok__law_name T) (hr.mono (by decide)) (takes_of rfl rfl rfl rfl) (da_cons (dv 1) da_nil)) da_nil)))) da_nil))))))))
    (dss_cons (ds_set (i := 4) sc_law.nd rfl (Or.inl rfl) (de_m1 PySem.F.slot_str_join PySem.F.type_str_join mt_join rJoin_v takesF de_str (de_lc (own := [("_law_move", 8)]) (pt := (.nm 8)) rfl sc_law.nd (di_list (dv 2)) (blkOk_by (own := [("_law_move", 8)]) (N := ["_law_script", "_law_state", "_law_moves", "_law_k", "_law_text", "_law_kept", "_law_told", "_law_odd", "_law_move"]) (sc := defScope s_law) (by decide +kernel)) (by decide) (fun _ _ _ _ _ => (pg_name (i := 8) sc_law.nd rfl (Or.inl rfl))) (fun _ _ _ _ _ => dts_nil) (fun _ _ _ _ _ => (de_m1 PySem.F.slot_str_join PySem.F.type_str_join mt_join rJoin_v takesF de_str (ve_callTy call_list_of rList_v takesF T.b_list (by decide +kernel) (da_cons (dv 8) da_nil)))))))
    (dss_cons (ds_set (i := 5) sc_law.nd rfl (Or.inl rfl) (ve_callTy call_list_of rList_v takesF T.b_list (by decide +kernel) (da_cons (dv 2) da_nil)))
    (dss_cons (ds_if (PW.pt (dw_or (vt_cmp (op_neB hr.units) rNeB_v (de_callG takesF (ok_moves_text T) (hr.mono (by decide)) (takes_of rfl rfl rfl rfl) (da_cons (dv 2) da_nil)) (dv 4)) (dw_or (vt_cmp (op_neB hr.units) rNeB_v (dv 2) (dv 5)) (dw_or1 (vt_cmp (op_neB hr.units) rNeB_v (de_callG takesF (ok__law_found T) (hr.mono (by decide)) (takes_of rfl rfl rfl rfl) (da_cons (dv 4) da_nil)) (dv 2)))))) (dss_one (ds_ret de_bl)) dss_nil)
    (dss_cons (ds_set (i := 6) sc_law.nd rfl (Or.inl rfl) (de_callG takesC (ok_read_moves T) (hr.mono (by decide)) (takes_of rfl rfl rfl rfl) (da_cons (dv 4) da_nil)))
    (dss_cons (ds_expr (de_cm PySem.F.slot_list_append PySem.F.type_list_append mt_append rAppend_v (dv 6) (da_cons de_int da_nil)))
    (dss_cons (ds_asg de_non (dg_subL (dv 6) de_int))
    (dss_cons (ds_if (vt_cmp (op_neB hr.units) rNeB_v (de_callG takesF (ok__law_found T) (hr.mono (by decide)) (takes_of rfl rfl rfl rfl) (da_cons (dv 4) da_nil)) (dv 2)) (dss_one (ds_ret de_bl)) dss_nil)
    (dss_cons (ds_for (passes_of rfl) rfl (di_range2 T.b_range (da_cons de_int (da_cons (ve_callB (call_max2 rfl) rI2_v takesF T.b_max (by decide +kernel) (da_cons de_int (da_cons (ve_callB (call_min2 rfl) rI2_v takesF T.b_min (by decide +kernel) (da_cons de_int (da_cons (ve_callB call_lenU rLenU_v takesF T.b_len (by decide +kernel) (da_cons (dv 0) da_nil)) da_nil))) da_nil))) da_nil))) (dg_name (i := 3) sc_law.nd rfl (Or.inl rfl)) (dss_cons (ds_set (i := 7) sc_law.nd rfl (Or.inl rfl) (de_callG takesF (ok__law_spoiled T) (hr.mono (by decide)) (takes_of rfl rfl rfl rfl) (da_cons (de_lstC (da_cons (ve_op op_addU rAdd_v takesF (de_callG takesF (ok__law_cell_at T) (hr.mono (by decide)) (takes_of rfl rfl rfl rfl) (da_cons (dv 0) (da_cons (dv 3) da_nil))) (ve_op op_mul rI_int takesF de_int (dv 3))) da_nil)) (da_cons (dv 4) da_nil))))
    (dss_one (ds_if (vt_cmp (op_neB hr.units) rNeB_v (de_callG takesF (ok__law_found T) (hr.mono (by decide)) (takes_of rfl rfl rfl rfl) (da_cons (dv 7) da_nil)) (de_callG takesF (ok__law_due T) (hr.mono (by decide)) (takes_of rfl rfl rfl rfl) (da_cons (dv 7) da_nil))) (dss_one (ds_ret de_bl)) dss_nil))))
    (dss_cons (ds_for (passes_of rfl) rfl (di_list (de_lst (da_cons de_non (da_cons de_int (da_cons de_bl (da_cons (dv 2) (da_cons (de_tup (da_cons de_str (da_cons de_str (da_cons de_str da_nil)))) da_nil))))))) (dg_name (i := 7) sc_law.nd rfl (Or.inl rfl)) (dss_one (ds_if (vt_cmp (op_neB hr.units) rNeB_v (de_callG takesF (ok__law_found T) (hr.mono (by decide)) (takes_of rfl rfl rfl rfl) (da_cons (dv 7) da_nil)) de_str) (dss_one (ds_ret de_bl)) dss_nil)))
    (dss_one (ds_ret (de_and (ve_cmp (op_eqB hr.units) rEqB_v (de_callG takesF (ok__law_found T) (hr.mono (by decide)) (takes_of rfl rfl rfl rfl) (da_cons (dv 4) da_nil)) (dv 2)) (de_and (ve_cmp (op_eqB hr.units) rEqB_v (de_callG takesF (ok__law_found T) (hr.mono (by decide)) (takes_of rfl rfl rfl rfl) (da_cons de_str da_nil)) (de_lst da_nil)) (de_one (ve_cmp (op_eqB hr.units) rEqB_v (de_callG takesF (ok_moves_text T) (hr.mono (by decide)) (takes_of rfl rfl rfl rfl) (da_cons (de_lst da_nil) da_nil)) de_str)))))))))))))))))), fun ds μ qr Ex wf h => by
    obtain ⟨ns, rfl, hl, rfl, h⟩ := h
    have hL : 2000000 ≤ sizeLine := by decide
    have dg2 : ∀ (a b c bs : Int) (y : MO) (q : QR) (Ex : DX), 0 < bs → bs < 1073741824 → (∀ r a' b' c', 0 ≤ r → r < bs → q (.val (.int r)) [S3 a' b' c', y]) → sp__law_digit K A [.cell 0, .int bs] [S3 a b c, y] q Ex := fun a b c bs y q Ex h0 h1 hq =>
      ⟨0, bs, rfl, .inr ⟨a, b, c, rfl⟩, h0, h1, fun r μ' u h2 h3 => by obtain ⟨a', b', c', rfl⟩ := u; exact hq r a' b' c' h2 h3⟩
    have nm2 : ∀ (a b c : Int) (y : MO) (q : QR) (Ex : DX), (∀ z a' b' c', isNameS z = true → q (.val (.str z)) [S3 a' b' c', y]) → sp__law_name K A [.cell 0] [S3 a b c, y] q Ex := fun a b c y q Ex hq =>
      ⟨0, rfl, .inr ⟨a, b, c, rfl⟩, fun z μ' u h3 => by obtain ⟨a', b', c', rfl⟩ := u; exact hq z a' b' c' h3⟩
    simp only [bx_K, bx_P, bx_w, bx_mg, bx_base, dFnv, dCallL, dVar, dC, dK, dNil, dCons, dOp, dUn, dCB, dB, dNot, dAnd, dOr, dAndV, dOrV, dNotV, dIf, dChain, dNext, dSeq, dGh, dDrop, dRet, dRetN, dIfS, dBreak, dCont, hName, hNil, hCons, hTup, dAsg, dTup, dLst, dLstC, dCallG, vOp, vUn, vCB, vI, vIc, diL, diT, diR1, diR2, diLK, diS, dFor, dLc, dLcC, dYes, dPar, dDnewC, dDnew, dSl, dNoPart, dPart, dM1, vSplit, vJoin, dCM, vAppend, vExtend, vClear, vPop, vRev, hSubL, dRaise, vIx_str, vIx_tup, vIx_lst, vIx_lsk, vIx_cell, vAdd_int, vAdd_str, vAdd_ll, vAdd_lc, vAdd_cl, vAdd_cc, vLen_str, vLen_lst, vLen_lsk, vLen_tup, vLen_cell, asX_cell, asS_cell, asL_lst, asL_lsk, asX_lst, asS_lst, asS_lsk, asS_tup, vEqB_str, vEqB_int, vNeB_str, vNeB_int, vIsB, vI1, vI2, vAll, vAny, vSum, vIsi, vSlL, vSlS, resF, resC, startD, DEnds.of, List.map_cons, List.map_nil, List.length_cons, List.length_nil, List.replicate, List.cons_append, List.nil_append, List.append_nil, List.getElem?_cons_zero, List.getElem?_cons_succ, List.set_cons_zero, List.set_cons_succ, List.getElem?_nil, List.set_nil, Nat.reduceAdd, Nat.reduceSub, Nat.zero_add, Nat.sub_zero, Option.some.injEq, exists_eq_left', exists_eq_left, exists_and_left, exists_eq_right, true_and, and_true, D.str.injEq, D.int.injEq, D.bl.injEq, D.lst.injEq, D.tup.injEq, D.cell.injEq, D.dic.injEq, D.lsk.injEq, D.ty.injEq, D.ref.injEq, MO.lst.injEq, MO.dic.injEq, MO.dit.injEq, MO.ins.injEq, List.cons.injEq, reduceCtorEq, false_and, and_false, exists_false, or_false, false_or, if_true, if_false, ite_true, ite_false, Bool.false_eq_true, and_assoc, exists_const, exists_prop]
    refine ⟨ns, 0, rfl, ?_⟩
    simp only [resF, resC, vIx_str, vIx_tup, vIx_lst, vIx_lsk, vIx_cell, vAdd_int, vAdd_str, vAdd_ll, vAdd_lc, vAdd_cl, vAdd_cc, vLen_str, vLen_lst, vLen_lsk, vLen_tup, vLen_cell, asX_cell, asS_cell, asL_lst, asL_lsk, asX_lst, asS_lst, asS_lsk, asS_tup, vEqB_str, vEqB_int, vNeB_str, vNeB_int, D.str.injEq, D.int.injEq, D.bl.injEq, D.lst.injEq, D.tup.injEq, D.cell.injEq, D.ref.injEq, MO.lst.injEq, List.cons.injEq, reduceCtorEq, false_and, and_false, exists_false, or_false, false_or, exists_eq_left', exists_eq_left, exists_and_left, exists_eq_right, true_and, and_true, Option.some.injEq, if_true, if_false, Bool.false_eq_true, and_assoc]
    refine ⟨by omega, by omega, by omega, 0, 2, rfl, .inl ⟨_, rfl⟩, by decide, by decide, fun r μ1 u1 h0 h2 => ?_⟩
    obtain ⟨a, b, c, rfl⟩ := u1
    simp only [resF, resC, vIx_str, vIx_tup, vIx_lst, vIx_lsk, vIx_cell, vAdd_int, vAdd_str, vAdd_ll, vAdd_lc, vAdd_cl, vAdd_cc, vLen_str, vLen_lst, vLen_lsk, vLen_tup, vLen_cell, asX_cell, asS_cell, asL_lst, asL_lsk, asX_lst, asS_lst, asS_lsk, asS_tup, vEqB_str, vEqB_int, vNeB_str, vNeB_int, D.str.injEq, D.int.injEq, D.bl.injEq, D.lst.injEq, D.tup.injEq, D.cell.injEq, D.ref.injEq, MO.lst.injEq, List.cons.injEq, reduceCtorEq, false_and, and_false, exists_false, or_false, false_or, exists_eq_left', exists_eq_left, exists_and_left, exists_eq_right, true_and, and_true, Option.some.injEq, if_true, if_false, Bool.false_eq_true, and_assoc]
    obtain ⟨d0, hd0, hm⟩ := atI_in (xs := [D.int 4, D.int 61]) (i := r) h0 (by simpa using h2)
    obtain ⟨n, rfl, hn1, hn2⟩ : ∃ n : Int, d0 = .int n ∧ 4 ≤ n ∧ n ≤ 61 := by
      simp only [List.mem_cons, List.not_mem_nil, or_false] at hm
      rcases hm with rfl | rfl <;> exact ⟨_, rfl, by omega, by omega⟩
    refine ⟨_, hd0, dg2 a b c n _ _ _ (by omega) (by omega) fun nn a b c hnn0 hnn1 => ?_⟩
    simp only [resF, resC, vIx_str, vIx_tup, vIx_lst, vIx_lsk, vIx_cell, vAdd_int, vAdd_str, vAdd_ll, vAdd_lc, vAdd_cl, vAdd_cc, vLen_str, vLen_lst, vLen_lsk, vLen_tup, vLen_cell, asX_cell, asS_cell, asL_lst, asL_lsk, asX_lst, asS_lst, asS_lsk, asS_tup, vEqB_str, vEqB_int, vNeB_str, vNeB_int, D.str.injEq, D.int.injEq, D.bl.injEq, D.lst.injEq, D.tup.injEq, D.cell.injEq, D.ref.injEq, MO.lst.injEq, List.cons.injEq, reduceCtorEq, false_and, and_false, exists_false, or_false, false_or, exists_eq_left', exists_eq_left, exists_and_left, exists_eq_right, true_and, and_true, Option.some.injEq, if_true, if_false, Bool.false_eq_true, and_assoc]
    refine ⟨by omega, by omega, forR_inv (fun k ρ μ' => ∃ ms o a b c, ρ = [some (.lsk (ns.map D.int)), some (.cell 0), some (.cell 1), o, none, none, none, none, none] ∧ μ' = [S3 a b c, .lst (ms.map tupD)] ∧ ms.length = k ∧ WOk ms) ⟨[], none, a, b, c, rfl, rfl, rfl, fun m hm => nomatch hm⟩ ?_ ?_⟩
    · rintro k d ρ μ' hd ⟨ms, o, a, b, c, rfl, rfl, hk, hw⟩
      obtain ⟨rfl, hk2⟩ := rngD_get hd
      have apnd : ∀ (a b c : Int) (m : List Str), wordsOk m = true → ∃ ms' x x1 x2, List.set [S3 a b c, .lst (ms.map tupD)] 1 (.lst (ms.map tupD ++ [tupD m])) = [S3 x x1 x2, .lst (ms'.map tupD)] ∧ ms'.length = k + 1 ∧ WOk ms' := fun a b c m hm =>
        ⟨ms ++ [m], a, b, c, by simp, by simp [hk], fun x hx => by
          rcases List.mem_append.mp hx with h | h
          · exact hw x h
          · rw [List.mem_singleton.mp h]; exact hm⟩
      simp only [bx_K, bx_P, bx_w, bx_mg, bx_base, dFnv, dCallL, dVar, dC, dK, dNil, dCons, dOp, dUn, dCB, dB, dNot, dAnd, dOr, dAndV, dOrV, dNotV, dIf, dChain, dNext, dSeq, dGh, dDrop, dRet, dRetN, dIfS, dBreak, dCont, hName, hNil, hCons, hTup, dAsg, dTup, dLst, dLstC, dCallG, vOp, vUn, vCB, vI, vIc, diL, diT, diR1, diR2, diLK, diS, dFor, dLc, dLcC, dYes, dPar, dDnewC, dDnew, dSl, dNoPart, dPart, dM1, vSplit, vJoin, dCM, vAppend, vExtend, vClear, vPop, vRev, hSubL, dRaise, vIx_str, vIx_tup, vIx_lst, vIx_lsk, vIx_cell, vAdd_int, vAdd_str, vAdd_ll, vAdd_lc, vAdd_cl, vAdd_cc, vLen_str, vLen_lst, vLen_lsk, vLen_tup, vLen_cell, asX_cell, asS_cell, asL_lst, asL_lsk, asX_lst, asS_lst, asS_lsk, asS_tup, vEqB_str, vEqB_int, vNeB_str, vNeB_int, vIsB, vI1, vI2, vAll, vAny, vSum, vIsi, vSlL, vSlS, resF, resC, startD, DEnds.of, List.map_cons, List.map_nil, List.length_cons, List.length_nil, List.replicate, List.cons_append, List.nil_append, List.append_nil, List.getElem?_cons_zero, List.getElem?_cons_succ, List.set_cons_zero, List.set_cons_succ, List.getElem?_nil, List.set_nil, Nat.reduceAdd, Nat.reduceSub, Nat.zero_add, Nat.sub_zero, Option.some.injEq, exists_eq_left', exists_eq_left, exists_and_left, exists_eq_right, true_and, and_true, D.str.injEq, D.int.injEq, D.bl.injEq, D.lst.injEq, D.tup.injEq, D.cell.injEq, D.dic.injEq, D.lsk.injEq, D.ty.injEq, D.ref.injEq, MO.lst.injEq, MO.dic.injEq, MO.dit.injEq, MO.ins.injEq, List.cons.injEq, reduceCtorEq, false_and, and_false, exists_false, or_false, false_or, if_true, if_false, ite_true, ite_false, Bool.false_eq_true, and_assoc, exists_const, exists_prop]
      refine ⟨by omega, .inr ⟨ok_tups hw, by rfl, ?_⟩⟩
      show resF _ (.val (.bl (!deq (.lst (ms.map tupD)) (.lst (([] : List (List Str)).map tupD))))) _
      rw [deq_tups]
      simp only [resF, resC, vIx_str, vIx_tup, vIx_lst, vIx_lsk, vIx_cell, vAdd_int, vAdd_str, vAdd_ll, vAdd_lc, vAdd_cl, vAdd_cc, vLen_str, vLen_lst, vLen_lsk, vLen_tup, vLen_cell, asX_cell, asS_cell, asL_lst, asL_lsk, asX_lst, asS_lst, asS_lsk, asS_tup, vEqB_str, vEqB_int, vNeB_str, vNeB_int, D.str.injEq, D.int.injEq, D.bl.injEq, D.lst.injEq, D.tup.injEq, D.cell.injEq, D.ref.injEq, MO.lst.injEq, List.cons.injEq, reduceCtorEq, false_and, and_false, exists_false, or_false, false_or, exists_eq_left', exists_eq_left, exists_and_left, exists_eq_right, true_and, and_true, Option.some.injEq, if_true, if_false, Bool.false_eq_true, and_assoc]
      by_cases hm : ms = []
      · rw [if_neg (by simp [hm])]
        refine ⟨_, rfl, nm2 _ _ _ _ _ _ fun z1 a b c g1 => ?_⟩
        simp only [resF, resC, vIx_str, vIx_tup, vIx_lst, vIx_lsk, vIx_cell, vAdd_int, vAdd_str, vAdd_ll, vAdd_lc, vAdd_cl, vAdd_cc, vLen_str, vLen_lst, vLen_lsk, vLen_tup, vLen_cell, asX_cell, asS_cell, asL_lst, asL_lsk, asX_lst, asS_lst, asS_lsk, asS_tup, vEqB_str, vEqB_int, vNeB_str, vNeB_int, D.str.injEq, D.int.injEq, D.bl.injEq, D.lst.injEq, D.tup.injEq, D.cell.injEq, D.ref.injEq, MO.lst.injEq, List.cons.injEq, reduceCtorEq, false_and, and_false, exists_false, or_false, false_or, exists_eq_left', exists_eq_left, exists_and_left, exists_eq_right, true_and, and_true, Option.some.injEq, if_true, if_false, Bool.false_eq_true, and_assoc]
        refine nm2 _ _ _ _ _ _ fun z2 a b c g2 => ?_
        simp only [resF, resC, vIx_str, vIx_tup, vIx_lst, vIx_lsk, vIx_cell, vAdd_int, vAdd_str, vAdd_ll, vAdd_lc, vAdd_cl, vAdd_cc, vLen_str, vLen_lst, vLen_lsk, vLen_tup, vLen_cell, asX_cell, asS_cell, asL_lst, asL_lsk, asX_lst, asS_lst, asS_lsk, asS_tup, vEqB_str, vEqB_int, vNeB_str, vNeB_int, D.str.injEq, D.int.injEq, D.bl.injEq, D.lst.injEq, D.tup.injEq, D.cell.injEq, D.ref.injEq, MO.lst.injEq, List.cons.injEq, reduceCtorEq, false_and, and_false, exists_false, or_false, false_or, exists_eq_left', exists_eq_left, exists_and_left, exists_eq_right, true_and, and_true, Option.some.injEq, if_true, if_false, Bool.false_eq_true, and_assoc]
        refine nm2 _ _ _ _ _ _ fun z3 a b c g3 => ?_
        simp only [resF, resC, vIx_str, vIx_tup, vIx_lst, vIx_lsk, vIx_cell, vAdd_int, vAdd_str, vAdd_ll, vAdd_lc, vAdd_cl, vAdd_cc, vLen_str, vLen_lst, vLen_lsk, vLen_tup, vLen_cell, asX_cell, asS_cell, asL_lst, asL_lsk, asX_lst, asS_lst, asS_lsk, asS_tup, vEqB_str, vEqB_int, vNeB_str, vNeB_int, D.str.injEq, D.int.injEq, D.bl.injEq, D.lst.injEq, D.tup.injEq, D.cell.injEq, D.ref.injEq, MO.lst.injEq, List.cons.injEq, reduceCtorEq, false_and, and_false, exists_false, or_false, false_or, exists_eq_left', exists_eq_left, exists_and_left, exists_eq_right, true_and, and_true, Option.some.injEq, if_true, if_false, Bool.false_eq_true, and_assoc]
        refine ⟨by omega, _, rfl, by rw [List.length_map]; omega, ?_⟩
        exact apnd a b c [z1, z2, z3] (wordsOk_iff.mpr ⟨rfl, by simp [g1, g2, g3]⟩)
      · rw [if_pos (by simp [hm])]
        refine dg2 _ _ _ _ _ _ _ (by decide) (by decide) fun r a b c h0 h4 => ?_
        simp only [resF, resC, vIx_str, vIx_tup, vIx_lst, vIx_lsk, vIx_cell, vAdd_int, vAdd_str, vAdd_ll, vAdd_lc, vAdd_cl, vAdd_cc, vLen_str, vLen_lst, vLen_lsk, vLen_tup, vLen_cell, asX_cell, asS_cell, asL_lst, asL_lsk, asX_lst, asS_lst, asS_lsk, asS_tup, vEqB_str, vEqB_int, vNeB_str, vNeB_int, D.str.injEq, D.int.injEq, D.bl.injEq, D.lst.injEq, D.tup.injEq, D.cell.injEq, D.ref.injEq, MO.lst.injEq, List.cons.injEq, reduceCtorEq, false_and, and_false, exists_false, or_false, false_or, exists_eq_left', exists_eq_left, exists_and_left, exists_eq_right, true_and, and_true, Option.some.injEq, if_true, if_false, Bool.false_eq_true, and_assoc]
        by_cases e0 : r = 0
        · rw [if_pos (decide_eq_true e0)]
          have hp : 0 < ms.length := List.length_pos_iff.mpr hm
          refine ⟨_, rfl, _, rfl, dg2 _ _ _ _ _ _ _ (by rw [List.length_map]; omega) (by rw [List.length_map]; omega) fun r2 a b c h20 h21 => ?_⟩
          rw [List.length_map] at h21
          simp only [resF, resC, vIx_str, vIx_tup, vIx_lst, vIx_lsk, vIx_cell, vAdd_int, vAdd_str, vAdd_ll, vAdd_lc, vAdd_cl, vAdd_cc, vLen_str, vLen_lst, vLen_lsk, vLen_tup, vLen_cell, asX_cell, asS_cell, asL_lst, asL_lsk, asX_lst, asS_lst, asS_lsk, asS_tup, vEqB_str, vEqB_int, vNeB_str, vNeB_int, D.str.injEq, D.int.injEq, D.bl.injEq, D.lst.injEq, D.tup.injEq, D.cell.injEq, D.ref.injEq, MO.lst.injEq, List.cons.injEq, reduceCtorEq, false_and, and_false, exists_false, or_false, false_or, exists_eq_left', exists_eq_left, exists_and_left, exists_eq_right, true_and, and_true, Option.some.injEq, if_true, if_false, Bool.false_eq_true, and_assoc]
          obtain ⟨m, hm1, hm2⟩ := atI_in (xs := ms) (i := r2) h20 h21
          exact ⟨_, rfl, _, by rw [atI_map, hm1]; rfl, _, rfl, by rw [List.length_map]; omega, apnd a b c m (hw m hm2)⟩
        rw [if_neg (by simp [e0])]
        refine ⟨_, rfl, nm2 _ _ _ _ _ _ fun z1 a b c g1 => ?_⟩
        simp only [resF, resC, vIx_str, vIx_tup, vIx_lst, vIx_lsk, vIx_cell, vAdd_int, vAdd_str, vAdd_ll, vAdd_lc, vAdd_cl, vAdd_cc, vLen_str, vLen_lst, vLen_lsk, vLen_tup, vLen_cell, asX_cell, asS_cell, asL_lst, asL_lsk, asX_lst, asS_lst, asS_lsk, asS_tup, vEqB_str, vEqB_int, vNeB_str, vNeB_int, D.str.injEq, D.int.injEq, D.bl.injEq, D.lst.injEq, D.tup.injEq, D.cell.injEq, D.ref.injEq, MO.lst.injEq, List.cons.injEq, reduceCtorEq, false_and, and_false, exists_false, or_false, false_or, exists_eq_left', exists_eq_left, exists_and_left, exists_eq_right, true_and, and_true, Option.some.injEq, if_true, if_false, Bool.false_eq_true, and_assoc]
        refine nm2 _ _ _ _ _ _ fun z2 a b c g2 => ?_
        simp only [resF, resC, vIx_str, vIx_tup, vIx_lst, vIx_lsk, vIx_cell, vAdd_int, vAdd_str, vAdd_ll, vAdd_lc, vAdd_cl, vAdd_cc, vLen_str, vLen_lst, vLen_lsk, vLen_tup, vLen_cell, asX_cell, asS_cell, asL_lst, asL_lsk, asX_lst, asS_lst, asS_lsk, asS_tup, vEqB_str, vEqB_int, vNeB_str, vNeB_int, D.str.injEq, D.int.injEq, D.bl.injEq, D.lst.injEq, D.tup.injEq, D.cell.injEq, D.ref.injEq, MO.lst.injEq, List.cons.injEq, reduceCtorEq, false_and, and_false, exists_false, or_false, false_or, exists_eq_left', exists_eq_left, exists_and_left, exists_eq_right, true_and, and_true, Option.some.injEq, if_true, if_false, Bool.false_eq_true, and_assoc]
        refine nm2 _ _ _ _ _ _ fun z3 a b c g3 => ?_
        simp only [resF, resC, vIx_str, vIx_tup, vIx_lst, vIx_lsk, vIx_cell, vAdd_int, vAdd_str, vAdd_ll, vAdd_lc, vAdd_cl, vAdd_cc, vLen_str, vLen_lst, vLen_lsk, vLen_tup, vLen_cell, asX_cell, asS_cell, asL_lst, asL_lsk, asX_lst, asS_lst, asS_lsk, asS_tup, vEqB_str, vEqB_int, vNeB_str, vNeB_int, D.str.injEq, D.int.injEq, D.bl.injEq, D.lst.injEq, D.tup.injEq, D.cell.injEq, D.ref.injEq, MO.lst.injEq, List.cons.injEq, reduceCtorEq, false_and, and_false, exists_false, or_false, false_or, exists_eq_left', exists_eq_left, exists_and_left, exists_eq_right, true_and, and_true, Option.some.injEq, if_true, if_false, Bool.false_eq_true, and_assoc]
        refine ⟨by omega, _, rfl, by rw [List.length_map]; omega, ?_⟩
        exact apnd a b c [z1, z2, z3] (wordsOk_iff.mpr ⟨rfl, by simp [g1, g2, g3]⟩)
    · rintro ρ μ' ⟨ms, o, a, b, c, rfl, rfl, hk, hw⟩
      rw [rngD_len] at hk
      have hk60 : ms.length ≤ 60 := by omega
      have hm3 : ∀ m ∈ ms, m.length = 3 ∧ ∀ w ∈ m, w.length ≤ 8 := fun m hm => ⟨(wordsOk_iff.mp (hw m hm)).1, fun w hw' => name_len ((wordsOk_iff.mp (hw m hm)).2 w hw')⟩
      have hrow : ∀ m ∈ ms, (Txt.join " " m).length ≤ 27 ∧ (m.map (·.length)).sum + m.length * (Str.ofString " ").length ≤ 27 := fun m hm => by
        obtain ⟨h1, h2⟩ := hm3 m hm
        have h3 := sum_le h2
        have := wt_join (l := m) (sep := (" " : Str)) rfl
        unfold wt at this
        omega
      have hsumr := sum_le (l := ms.map fun m => Txt.join " " m) (B := 27) (fun z hz => by
        obtain ⟨m, hm, rfl⟩ := List.mem_map.mp hz
        exact (hrow m hm).1)
      rw [List.length_map] at hsumr
      have hzj := wt_join (l := ms.map fun m => Txt.join " " m) (sep := ("\n" : Str)) rfl
      have hz : Txt.join (Str.ofString "\n") (ms.map fun m => Txt.join (Str.ofString " ") m) = movesS ms := rfl
      rw [hz] at hzj
      unfold wt at hzj
      rw [List.length_map] at hzj
      have rb := read_moves_back hw
      have hfd : foundD (movesS ms) = .lst (ms.map tupD) := by unfold foundD; rw [rb]
      have neT : ∀ (μ : Mu) (q : QR), q (.val (.bl false)) μ → vNeB (.lst (ms.map tupD)) (.lst (ms.map tupD)) μ q := fun μ q hq => .inr ⟨ok_tups hw, ok_tups hw, by
        show q (.val (.bl (!deq (.lst (ms.map tupD)) (.lst (ms.map tupD))))) μ
        rw [deq_tups]; simpa using hq⟩
      have eqT : ∀ (μ : Mu) (q : QR), q (.val (.bl true)) μ → vEqB (.lst (ms.map tupD)) (.lst (ms.map tupD)) μ q := fun μ q hq => .inr ⟨ok_tups hw, ok_tups hw, by
        show q (.val (.bl (deq (.lst (ms.map tupD)) (.lst (ms.map tupD))))) μ
        rw [deq_tups]; simpa using hq⟩
      have zok : PyData.strOk (movesS ms) = true := strOk_iff.mpr fun x hx => by
        unfold movesS at hx
        rw [show Txt.join "\n" (ms.map fun m => Txt.join " " m) = Str.join "\n" (ms.map fun m => Txt.join " " m) from StrLaws.glued_eq_join _ _] at hx
        rcases (PyProof.Rows.mem_join _ _ _).mp hx with ⟨w, hw', hc⟩ | ⟨_, hc⟩
        · obtain ⟨m, hm, rfl⟩ := List.mem_map.mp hw'
          rcases row_sign (hw m hm) hc with h | h
          · exact letters_ok x h
          · omega
        · have : x ∈ [10] := hc
          have : x = 10 := by simpa using this
          omega
      refine ⟨_, _, Ghost.settle (c := 1) (i := 2) rfl rfl, ?_⟩
      simp only [bx_K, bx_P, bx_w, bx_mg, bx_base, dFnv, dCallL, dVar, dC, dK, dNil, dCons, dOp, dUn, dCB, dB, dNot, dAnd, dOr, dAndV, dOrV, dNotV, dIf, dChain, dNext, dSeq, dGh, dDrop, dRet, dRetN, dIfS, dBreak, dCont, hName, hNil, hCons, hTup, dAsg, dTup, dLst, dLstC, dCallG, vOp, vUn, vCB, vI, vIc, diL, diT, diR1, diR2, diLK, diS, dFor, dLc, dLcC, dYes, dPar, dDnewC, dDnew, dSl, dNoPart, dPart, dM1, vSplit, vJoin, dCM, vAppend, vExtend, vClear, vPop, vRev, hSubL, dRaise, vIx_str, vIx_tup, vIx_lst, vIx_lsk, vIx_cell, vAdd_int, vAdd_str, vAdd_ll, vAdd_lc, vAdd_cl, vAdd_cc, vLen_str, vLen_lst, vLen_lsk, vLen_tup, vLen_cell, asX_cell, asS_cell, asL_lst, asL_lsk, asX_lst, asS_lst, asS_lsk, asS_tup, vEqB_str, vEqB_int, vNeB_str, vNeB_int, vIsB, vI1, vI2, vAll, vAny, vSum, vIsi, vSlL, vSlS, resF, resC, startD, DEnds.of, List.map_cons, List.map_nil, List.length_cons, List.length_nil, List.replicate, List.cons_append, List.nil_append, List.append_nil, List.getElem?_cons_zero, List.getElem?_cons_succ, List.set_cons_zero, List.set_cons_succ, List.getElem?_nil, List.set_nil, Nat.reduceAdd, Nat.reduceSub, Nat.zero_add, Nat.sub_zero, Option.some.injEq, exists_eq_left', exists_eq_left, exists_and_left, exists_eq_right, true_and, and_true, D.str.injEq, D.int.injEq, D.bl.injEq, D.lst.injEq, D.tup.injEq, D.cell.injEq, D.dic.injEq, D.lsk.injEq, D.ty.injEq, D.ref.injEq, MO.lst.injEq, MO.dic.injEq, MO.dit.injEq, MO.ins.injEq, List.cons.injEq, reduceCtorEq, false_and, and_false, exists_false, or_false, false_or, if_true, if_false, ite_true, ite_false, Bool.false_eq_true, and_assoc, exists_const, exists_prop]
      refine ⟨⟨_, rfl⟩, lcR_map (fun m => D.str (Txt.join " " m)) (by omega) (fun m hm Q hq => ?_) ?_⟩
      · have := (hrow m hm).2
        simp only [Pt.at, wipeD, List.set_cons_succ, List.set_cons_zero]
        simp only [bx_K, bx_P, bx_w, bx_mg, bx_base, dFnv, dCallL, dVar, dC, dK, dNil, dCons, dOp, dUn, dCB, dB, dNot, dAnd, dOr, dAndV, dOrV, dNotV, dIf, dChain, dNext, dSeq, dGh, dDrop, dRet, dRetN, dIfS, dBreak, dCont, hName, hNil, hCons, hTup, dAsg, dTup, dLst, dLstC, dCallG, vOp, vUn, vCB, vI, vIc, diL, diT, diR1, diR2, diLK, diS, dFor, dLc, dLcC, dYes, dPar, dDnewC, dDnew, dSl, dNoPart, dPart, dM1, vSplit, vJoin, dCM, vAppend, vExtend, vClear, vPop, vRev, hSubL, dRaise, vIx_str, vIx_tup, vIx_lst, vIx_lsk, vIx_cell, vAdd_int, vAdd_str, vAdd_ll, vAdd_lc, vAdd_cl, vAdd_cc, vLen_str, vLen_lst, vLen_lsk, vLen_tup, vLen_cell, asX_cell, asS_cell, asL_lst, asL_lsk, asX_lst, asS_lst, asS_lsk, asS_tup, vEqB_str, vEqB_int, vNeB_str, vNeB_int, vIsB, vI1, vI2, vAll, vAny, vSum, vIsi, vSlL, vSlS, resF, resC, startD, DEnds.of, List.map_cons, List.map_nil, List.length_cons, List.length_nil, List.replicate, List.cons_append, List.nil_append, List.append_nil, List.getElem?_cons_zero, List.getElem?_cons_succ, List.set_cons_zero, List.set_cons_succ, List.getElem?_nil, List.set_nil, Nat.reduceAdd, Nat.reduceSub, Nat.zero_add, Nat.sub_zero, Option.some.injEq, exists_eq_left', exists_eq_left, exists_and_left, exists_eq_right, true_and, and_true, D.str.injEq, D.int.injEq, D.bl.injEq, D.lst.injEq, D.tup.injEq, D.cell.injEq, D.dic.injEq, D.lsk.injEq, D.ty.injEq, D.ref.injEq, MO.lst.injEq, MO.dic.injEq, MO.dit.injEq, MO.ins.injEq, List.cons.injEq, reduceCtorEq, false_and, and_false, exists_false, or_false, false_or, if_true, if_false, ite_true, ite_false, Bool.false_eq_true, and_assoc, exists_const, exists_prop]
        refine ⟨⟨_, rfl⟩, ?_⟩
        simp only [tupD, vList]
        simp only [resF, resC, vIx_str, vIx_tup, vIx_lst, vIx_lsk, vIx_cell, vAdd_int, vAdd_str, vAdd_ll, vAdd_lc, vAdd_cl, vAdd_cc, vLen_str, vLen_lst, vLen_lsk, vLen_tup, vLen_cell, asX_cell, asS_cell, asL_lst, asL_lsk, asX_lst, asS_lst, asS_lsk, asS_tup, vEqB_str, vEqB_int, vNeB_str, vNeB_int, D.str.injEq, D.int.injEq, D.bl.injEq, D.lst.injEq, D.tup.injEq, D.cell.injEq, D.ref.injEq, MO.lst.injEq, List.cons.injEq, reduceCtorEq, false_and, and_false, exists_false, or_false, false_or, exists_eq_left', exists_eq_left, exists_and_left, exists_eq_right, true_and, and_true, Option.some.injEq, if_true, if_false, Bool.false_eq_true, and_assoc]
        exact ⟨m, strsD_map m, by omega, hq⟩
      have e : ms.map (fun m => D.str (Txt.join " " m)) = (ms.map fun m => Txt.join " " m).map D.str := by rw [List.map_map]; rfl
      rw [e]
      refine ⟨_, strsD_map _, by rw [List.length_map]; omega, ?_⟩
      simp only [hz, vList]
      simp only [resF, resC, vIx_str, vIx_tup, vIx_lst, vIx_lsk, vIx_cell, vAdd_int, vAdd_str, vAdd_ll, vAdd_lc, vAdd_cl, vAdd_cc, vLen_str, vLen_lst, vLen_lsk, vLen_tup, vLen_cell, asX_cell, asS_cell, asL_lst, asL_lsk, asX_lst, asS_lst, asS_lsk, asS_tup, vEqB_str, vEqB_int, vNeB_str, vNeB_int, D.str.injEq, D.int.injEq, D.bl.injEq, D.lst.injEq, D.tup.injEq, D.cell.injEq, D.ref.injEq, MO.lst.injEq, List.cons.injEq, reduceCtorEq, false_and, and_false, exists_false, or_false, false_or, exists_eq_left', exists_eq_left, exists_and_left, exists_eq_right, true_and, and_true, Option.some.injEq, if_true, if_false, Bool.false_eq_true, and_assoc]
      refine ⟨ms, rfl, by omega, fun m hm => ⟨by rw [(hm3 m hm).1]; decide, fun w hw' => Nat.le_trans ((hm3 m hm).2 w hw') (by decide)⟩, ?_⟩
      simp only [resF, resC, vIx_str, vIx_tup, vIx_lst, vIx_lsk, vIx_cell, vAdd_int, vAdd_str, vAdd_ll, vAdd_lc, vAdd_cl, vAdd_cc, vLen_str, vLen_lst, vLen_lsk, vLen_tup, vLen_cell, asX_cell, asS_cell, asL_lst, asL_lsk, asX_lst, asS_lst, asS_lsk, asS_tup, vEqB_str, vEqB_int, vNeB_str, vNeB_int, D.str.injEq, D.int.injEq, D.bl.injEq, D.lst.injEq, D.tup.injEq, D.cell.injEq, D.ref.injEq, MO.lst.injEq, List.cons.injEq, reduceCtorEq, false_and, and_false, exists_false, or_false, false_or, exists_eq_left', exists_eq_left, exists_and_left, exists_eq_right, true_and, and_true, Option.some.injEq, if_true, if_false, Bool.false_eq_true, and_assoc]
      simp only [decide_true, Bool.not_true, Bool.false_eq_true, if_false]
      refine neT _ _ ?_
      simp only [resF, resC, vIx_str, vIx_tup, vIx_lst, vIx_lsk, vIx_cell, vAdd_int, vAdd_str, vAdd_ll, vAdd_lc, vAdd_cl, vAdd_cc, vLen_str, vLen_lst, vLen_lsk, vLen_tup, vLen_cell, asX_cell, asS_cell, asL_lst, asL_lsk, asX_lst, asS_lst, asS_lsk, asS_tup, vEqB_str, vEqB_int, vNeB_str, vNeB_int, D.str.injEq, D.int.injEq, D.bl.injEq, D.lst.injEq, D.tup.injEq, D.cell.injEq, D.ref.injEq, MO.lst.injEq, List.cons.injEq, reduceCtorEq, false_and, and_false, exists_false, or_false, false_or, exists_eq_left', exists_eq_left, exists_and_left, exists_eq_right, true_and, and_true, Option.some.injEq, if_true, if_false, Bool.false_eq_true, and_assoc]
      refine ⟨_, rfl, .inl ⟨_, rfl, by omega, ?_⟩⟩
      rw [hfd]
      simp only [resF, resC, vIx_str, vIx_tup, vIx_lst, vIx_lsk, vIx_cell, vAdd_int, vAdd_str, vAdd_ll, vAdd_lc, vAdd_cl, vAdd_cc, vLen_str, vLen_lst, vLen_lsk, vLen_tup, vLen_cell, asX_cell, asS_cell, asL_lst, asL_lsk, asX_lst, asS_lst, asS_lsk, asS_tup, vEqB_str, vEqB_int, vNeB_str, vNeB_int, D.str.injEq, D.int.injEq, D.bl.injEq, D.lst.injEq, D.tup.injEq, D.cell.injEq, D.ref.injEq, MO.lst.injEq, List.cons.injEq, reduceCtorEq, false_and, and_false, exists_false, or_false, false_or, exists_eq_left', exists_eq_left, exists_and_left, exists_eq_right, true_and, and_true, Option.some.injEq, if_true, if_false, Bool.false_eq_true, and_assoc]
      refine neT _ _ ?_
      simp only [resF, resC, vIx_str, vIx_tup, vIx_lst, vIx_lsk, vIx_cell, vAdd_int, vAdd_str, vAdd_ll, vAdd_lc, vAdd_cl, vAdd_cc, vLen_str, vLen_lst, vLen_lsk, vLen_tup, vLen_cell, asX_cell, asS_cell, asL_lst, asL_lsk, asX_lst, asS_lst, asS_lsk, asS_tup, vEqB_str, vEqB_int, vNeB_str, vNeB_int, D.str.injEq, D.int.injEq, D.bl.injEq, D.lst.injEq, D.tup.injEq, D.cell.injEq, D.ref.injEq, MO.lst.injEq, List.cons.injEq, reduceCtorEq, false_and, and_false, exists_false, or_false, false_or, exists_eq_left', exists_eq_left, exists_and_left, exists_eq_right, true_and, and_true, Option.some.injEq, if_true, if_false, Bool.false_eq_true, and_assoc]
      refine ⟨_, rfl, .inl ⟨_, rfl, by omega, fun ms' e' => ?_, fun e' => nomatch rb.symm.trans e'⟩⟩
      cases Option.some.inj (rb.symm.trans e')
      simp only [resF, resC, vIx_str, vIx_tup, vIx_lst, vIx_lsk, vIx_cell, vAdd_int, vAdd_str, vAdd_ll, vAdd_lc, vAdd_cl, vAdd_cc, vLen_str, vLen_lst, vLen_lsk, vLen_tup, vLen_cell, asX_cell, asS_cell, asL_lst, asL_lsk, asX_lst, asS_lst, asS_lsk, asS_tup, vEqB_str, vEqB_int, vNeB_str, vNeB_int, D.str.injEq, D.int.injEq, D.bl.injEq, D.lst.injEq, D.tup.injEq, D.cell.injEq, D.ref.injEq, MO.lst.injEq, List.cons.injEq, reduceCtorEq, false_and, and_false, exists_false, or_false, false_or, exists_eq_left', exists_eq_left, exists_and_left, exists_eq_right, true_and, and_true, Option.some.injEq, if_true, if_false, Bool.false_eq_true, and_assoc]
      refine ⟨_, rfl, _, rfl, by rw [List.length_map]; omega, _, rfl, 0, by unfold ixN; rw [if_pos (by decide), if_pos (by simp)]; rfl, ?_⟩
      refine ⟨_, rfl, .inl ⟨_, rfl, by omega, ?_⟩⟩
      rw [hfd]
      simp only [resF, resC, vIx_str, vIx_tup, vIx_lst, vIx_lsk, vIx_cell, vAdd_int, vAdd_str, vAdd_ll, vAdd_lc, vAdd_cl, vAdd_cc, vLen_str, vLen_lst, vLen_lsk, vLen_tup, vLen_cell, asX_cell, asS_cell, asL_lst, asL_lsk, asX_lst, asS_lst, asS_lsk, asS_tup, vEqB_str, vEqB_int, vNeB_str, vNeB_int, D.str.injEq, D.int.injEq, D.bl.injEq, D.lst.injEq, D.tup.injEq, D.cell.injEq, D.ref.injEq, MO.lst.injEq, List.cons.injEq, reduceCtorEq, false_and, and_false, exists_false, or_false, false_or, exists_eq_left', exists_eq_left, exists_and_left, exists_eq_right, true_and, and_true, Option.some.injEq, if_true, if_false, Bool.false_eq_true, and_assoc]
      refine neT _ _ ?_
      simp only [resF, resC, vIx_str, vIx_tup, vIx_lst, vIx_lsk, vIx_cell, vAdd_int, vAdd_str, vAdd_ll, vAdd_lc, vAdd_cl, vAdd_cc, vLen_str, vLen_lst, vLen_lsk, vLen_tup, vLen_cell, asX_cell, asS_cell, asL_lst, asL_lsk, asX_lst, asS_lst, asS_lsk, asS_tup, vEqB_str, vEqB_int, vNeB_str, vNeB_int, D.str.injEq, D.int.injEq, D.bl.injEq, D.lst.injEq, D.tup.injEq, D.cell.injEq, D.ref.injEq, MO.lst.injEq, List.cons.injEq, reduceCtorEq, false_and, and_false, exists_false, or_false, false_or, exists_eq_left', exists_eq_left, exists_and_left, exists_eq_right, true_and, and_true, Option.some.injEq, if_true, if_false, Bool.false_eq_true, and_assoc]
      have hx : ∀ L : Int, 2 ≤ (if (if L < 42 then L else 42) > 2 then (if L < 42 then L else 42) else 2) ∧ (if (if L < 42 then L else 42) > 2 then (if L < 42 then L else 42) else 2) ≤ 42 := fun L => by split <;> split <;> omega
      obtain ⟨hM1, hM2⟩ := hx ((ns.map D.int).length : Nat)
      generalize (if (if (((ns.map D.int).length : Nat) : Int) < 42 then (((ns.map D.int).length : Nat) : Int) else 42) > 2 then (if (((ns.map D.int).length : Nat) : Int) < 42 then (((ns.map D.int).length : Nat) : Int) else 42) else 2) = M at hM1 hM2 ⊢
      refine ⟨by omega, by omega, by omega, by omega, forR_inv (fun _ ρ μ' => ∃ o3 o7, ρ = [some (.lsk (ns.map D.int)), some (.cell 0), some (.lst (ms.map tupD)), o3, some (.str (movesS ms)), some (.lst (ms.map tupD)), some (.cell 2), o7, none]) ⟨o, none, rfl⟩ ?_ ?_⟩
      · rintro i d ρ μ' hd ⟨o3, o7, rfl⟩
        obtain ⟨rfl, hi⟩ := rngD_get hd
        simp only [bx_K, bx_P, bx_w, bx_mg, bx_base, dFnv, dCallL, dVar, dC, dK, dNil, dCons, dOp, dUn, dCB, dB, dNot, dAnd, dOr, dAndV, dOrV, dNotV, dIf, dChain, dNext, dSeq, dGh, dDrop, dRet, dRetN, dIfS, dBreak, dCont, hName, hNil, hCons, hTup, dAsg, dTup, dLst, dLstC, dCallG, vOp, vUn, vCB, vI, vIc, diL, diT, diR1, diR2, diLK, diS, dFor, dLc, dLcC, dYes, dPar, dDnewC, dDnew, dSl, dNoPart, dPart, dM1, vSplit, vJoin, dCM, vAppend, vExtend, vClear, vPop, vRev, hSubL, dRaise, vIx_str, vIx_tup, vIx_lst, vIx_lsk, vIx_cell, vAdd_int, vAdd_str, vAdd_ll, vAdd_lc, vAdd_cl, vAdd_cc, vLen_str, vLen_lst, vLen_lsk, vLen_tup, vLen_cell, asX_cell, asS_cell, asL_lst, asL_lsk, asX_lst, asS_lst, asS_lsk, asS_tup, vEqB_str, vEqB_int, vNeB_str, vNeB_int, vIsB, vI1, vI2, vAll, vAny, vSum, vIsi, vSlL, vSlS, resF, resC, startD, DEnds.of, List.map_cons, List.map_nil, List.length_cons, List.length_nil, List.replicate, List.cons_append, List.nil_append, List.append_nil, List.getElem?_cons_zero, List.getElem?_cons_succ, List.set_cons_zero, List.set_cons_succ, List.getElem?_nil, List.set_nil, Nat.reduceAdd, Nat.reduceSub, Nat.zero_add, Nat.sub_zero, Option.some.injEq, exists_eq_left', exists_eq_left, exists_and_left, exists_eq_right, true_and, and_true, D.str.injEq, D.int.injEq, D.bl.injEq, D.lst.injEq, D.tup.injEq, D.cell.injEq, D.dic.injEq, D.lsk.injEq, D.ty.injEq, D.ref.injEq, MO.lst.injEq, MO.dic.injEq, MO.dit.injEq, MO.ins.injEq, List.cons.injEq, reduceCtorEq, false_and, and_false, exists_false, or_false, false_or, if_true, if_false, ite_true, ite_false, Bool.false_eq_true, and_assoc, exists_const, exists_prop]
        refine ⟨ns, 1 + i, by rw [Int.natCast_add]; rfl, ?_⟩
        simp only [resF, resC, vIx_str, vIx_tup, vIx_lst, vIx_lsk, vIx_cell, vAdd_int, vAdd_str, vAdd_ll, vAdd_lc, vAdd_cl, vAdd_cc, vLen_str, vLen_lst, vLen_lsk, vLen_tup, vLen_cell, asX_cell, asS_cell, asL_lst, asL_lsk, asX_lst, asS_lst, asS_lsk, asS_tup, vEqB_str, vEqB_int, vNeB_str, vNeB_int, D.str.injEq, D.int.injEq, D.bl.injEq, D.lst.injEq, D.tup.injEq, D.cell.injEq, D.ref.injEq, MO.lst.injEq, List.cons.injEq, reduceCtorEq, false_and, and_false, exists_false, or_false, false_or, exists_eq_left', exists_eq_left, exists_and_left, exists_eq_right, true_and, and_true, Option.some.injEq, if_true, if_false, Bool.false_eq_true, and_assoc]
        refine ⟨.inl (by decide), by omega, _, _, rfl, .inl ⟨_, get_app rfl⟩, by omega, zok, fun z' μ2 u hz' hk' => ?_⟩
        simp only [resF, resC, vIx_str, vIx_tup, vIx_lst, vIx_lsk, vIx_cell, vAdd_int, vAdd_str, vAdd_ll, vAdd_lc, vAdd_cl, vAdd_cc, vLen_str, vLen_lst, vLen_lsk, vLen_tup, vLen_cell, asX_cell, asS_cell, asL_lst, asL_lsk, asX_lst, asS_lst, asS_lsk, asS_tup, vEqB_str, vEqB_int, vNeB_str, vNeB_int, D.str.injEq, D.int.injEq, D.bl.injEq, D.lst.injEq, D.tup.injEq, D.cell.injEq, D.ref.injEq, MO.lst.injEq, List.cons.injEq, reduceCtorEq, false_and, and_false, exists_false, or_false, false_or, exists_eq_left', exists_eq_left, exists_and_left, exists_eq_right, true_and, and_true, Option.some.injEq, if_true, if_false, Bool.false_eq_true, and_assoc]
        refine ⟨_, rfl, .inl ⟨z', rfl, by omega, ?_⟩⟩
        cases er : readM z' with
        | none =>
          have e2 : foundD z' = .str "refused" := by unfold foundD; rw [er]
          rw [e2]
          simp only [resF, resC, vIx_str, vIx_tup, vIx_lst, vIx_lsk, vIx_cell, vAdd_int, vAdd_str, vAdd_ll, vAdd_lc, vAdd_cl, vAdd_cc, vLen_str, vLen_lst, vLen_lsk, vLen_tup, vLen_cell, asX_cell, asS_cell, asL_lst, asL_lsk, asX_lst, asS_lst, asS_lsk, asS_tup, vEqB_str, vEqB_int, vNeB_str, vNeB_int, D.str.injEq, D.int.injEq, D.bl.injEq, D.lst.injEq, D.tup.injEq, D.cell.injEq, D.ref.injEq, MO.lst.injEq, List.cons.injEq, reduceCtorEq, false_and, and_false, exists_false, or_false, false_or, exists_eq_left', exists_eq_left, exists_and_left, exists_eq_right, true_and, and_true, Option.some.injEq, if_true, if_false, Bool.false_eq_true, and_assoc]
          refine ⟨z', rfl, by omega, hk', fun ms' e' => (nomatch er.symm.trans e'), fun _ => ?_⟩
          simp only [resF, resC, vIx_str, vIx_tup, vIx_lst, vIx_lsk, vIx_cell, vAdd_int, vAdd_str, vAdd_ll, vAdd_lc, vAdd_cl, vAdd_cc, vLen_str, vLen_lst, vLen_lsk, vLen_tup, vLen_cell, asX_cell, asS_cell, asL_lst, asL_lsk, asX_lst, asS_lst, asS_lsk, asS_tup, vEqB_str, vEqB_int, vNeB_str, vNeB_int, D.str.injEq, D.int.injEq, D.bl.injEq, D.lst.injEq, D.tup.injEq, D.cell.injEq, D.ref.injEq, MO.lst.injEq, List.cons.injEq, reduceCtorEq, false_and, and_false, exists_false, or_false, false_or, exists_eq_left', exists_eq_left, exists_and_left, exists_eq_right, true_and, and_true, Option.some.injEq, if_true, if_false, Bool.false_eq_true, and_assoc]
          simp
        | some ms' =>
          have e2 : foundD z' = .lst (ms'.map tupD) := by unfold foundD; rw [er]
          rw [e2]
          simp only [resF, resC, vIx_str, vIx_tup, vIx_lst, vIx_lsk, vIx_cell, vAdd_int, vAdd_str, vAdd_ll, vAdd_lc, vAdd_cl, vAdd_cc, vLen_str, vLen_lst, vLen_lsk, vLen_tup, vLen_cell, asX_cell, asS_cell, asL_lst, asL_lsk, asX_lst, asS_lst, asS_lsk, asS_tup, vEqB_str, vEqB_int, vNeB_str, vNeB_int, D.str.injEq, D.int.injEq, D.bl.injEq, D.lst.injEq, D.tup.injEq, D.cell.injEq, D.ref.injEq, MO.lst.injEq, List.cons.injEq, reduceCtorEq, false_and, and_false, exists_false, or_false, false_or, exists_eq_left', exists_eq_left, exists_and_left, exists_eq_right, true_and, and_true, Option.some.injEq, if_true, if_false, Bool.false_eq_true, and_assoc]
          refine ⟨z', rfl, by omega, hk', fun ms2 e' => ?_, fun e' => nomatch er.symm.trans e'⟩
          cases Option.some.inj (er.symm.trans e')
          simp only [resF, resC, vIx_str, vIx_tup, vIx_lst, vIx_lsk, vIx_cell, vAdd_int, vAdd_str, vAdd_ll, vAdd_lc, vAdd_cl, vAdd_cc, vLen_str, vLen_lst, vLen_lsk, vLen_tup, vLen_cell, asX_cell, asS_cell, asL_lst, asL_lsk, asX_lst, asS_lst, asS_lsk, asS_tup, vEqB_str, vEqB_int, vNeB_str, vNeB_int, D.str.injEq, D.int.injEq, D.bl.injEq, D.lst.injEq, D.tup.injEq, D.cell.injEq, D.ref.injEq, MO.lst.injEq, List.cons.injEq, reduceCtorEq, false_and, and_false, exists_false, or_false, false_or, exists_eq_left', exists_eq_left, exists_and_left, exists_eq_right, true_and, and_true, Option.some.injEq, if_true, if_false, Bool.false_eq_true, and_assoc]
          refine neQ (readM_ok er) _ _ ?_
          simp only [resF, resC, vIx_str, vIx_tup, vIx_lst, vIx_lsk, vIx_cell, vAdd_int, vAdd_str, vAdd_ll, vAdd_lc, vAdd_cl, vAdd_cc, vLen_str, vLen_lst, vLen_lsk, vLen_tup, vLen_cell, asX_cell, asS_cell, asL_lst, asL_lsk, asX_lst, asS_lst, asS_lsk, asS_tup, vEqB_str, vEqB_int, vNeB_str, vNeB_int, D.str.injEq, D.int.injEq, D.bl.injEq, D.lst.injEq, D.tup.injEq, D.cell.injEq, D.ref.injEq, MO.lst.injEq, List.cons.injEq, reduceCtorEq, false_and, and_false, exists_false, or_false, false_or, exists_eq_left', exists_eq_left, exists_and_left, exists_eq_right, true_and, and_true, Option.some.injEq, if_true, if_false, Bool.false_eq_true, and_assoc]
          simp
      · rintro ρ μ' ⟨o3, o7, rfl⟩
        simp only [bx_K, bx_P, bx_w, bx_mg, bx_base, dFnv, dCallL, dVar, dC, dK, dNil, dCons, dOp, dUn, dCB, dB, dNot, dAnd, dOr, dAndV, dOrV, dNotV, dIf, dChain, dNext, dSeq, dGh, dDrop, dRet, dRetN, dIfS, dBreak, dCont, hName, hNil, hCons, hTup, dAsg, dTup, dLst, dLstC, dCallG, vOp, vUn, vCB, vI, vIc, diL, diT, diR1, diR2, diLK, diS, dFor, dLc, dLcC, dYes, dPar, dDnewC, dDnew, dSl, dNoPart, dPart, dM1, vSplit, vJoin, dCM, vAppend, vExtend, vClear, vPop, vRev, hSubL, dRaise, vIx_str, vIx_tup, vIx_lst, vIx_lsk, vIx_cell, vAdd_int, vAdd_str, vAdd_ll, vAdd_lc, vAdd_cl, vAdd_cc, vLen_str, vLen_lst, vLen_lsk, vLen_tup, vLen_cell, asX_cell, asS_cell, asL_lst, asL_lsk, asX_lst, asS_lst, asS_lsk, asS_tup, vEqB_str, vEqB_int, vNeB_str, vNeB_int, vIsB, vI1, vI2, vAll, vAny, vSum, vIsi, vSlL, vSlS, resF, resC, startD, DEnds.of, List.map_cons, List.map_nil, List.length_cons, List.length_nil, List.replicate, List.cons_append, List.nil_append, List.append_nil, List.getElem?_cons_zero, List.getElem?_cons_succ, List.set_cons_zero, List.set_cons_succ, List.getElem?_nil, List.set_nil, Nat.reduceAdd, Nat.reduceSub, Nat.zero_add, Nat.sub_zero, Option.some.injEq, exists_eq_left', exists_eq_left, exists_and_left, exists_eq_right, true_and, and_true, D.str.injEq, D.int.injEq, D.bl.injEq, D.lst.injEq, D.tup.injEq, D.cell.injEq, D.dic.injEq, D.lsk.injEq, D.ty.injEq, D.ref.injEq, MO.lst.injEq, MO.dic.injEq, MO.dit.injEq, MO.ins.injEq, List.cons.injEq, reduceCtorEq, false_and, and_false, exists_false, or_false, false_or, if_true, if_false, ite_true, ite_false, Bool.false_eq_true, and_assoc, exists_const, exists_prop]
        refine ⟨by omega, by omega, forR_inv (fun _ ρ μ' => ∃ o3 o7, ρ = [some (.lsk (ns.map D.int)), some (.cell 0), some (.lst (ms.map tupD)), o3, some (.str (movesS ms)), some (.lst (ms.map tupD)), some (.cell 2), o7, none]) ⟨o3, o7, rfl⟩ ?_ ?_⟩
        · rintro i d ρ μ' hd ⟨o3, o7, rfl⟩
          have hm := List.mem_of_getElem? hd
          simp only [bx_K, bx_P, bx_w, bx_mg, bx_base, dFnv, dCallL, dVar, dC, dK, dNil, dCons, dOp, dUn, dCB, dB, dNot, dAnd, dOr, dAndV, dOrV, dNotV, dIf, dChain, dNext, dSeq, dGh, dDrop, dRet, dRetN, dIfS, dBreak, dCont, hName, hNil, hCons, hTup, dAsg, dTup, dLst, dLstC, dCallG, vOp, vUn, vCB, vI, vIc, diL, diT, diR1, diR2, diLK, diS, dFor, dLc, dLcC, dYes, dPar, dDnewC, dDnew, dSl, dNoPart, dPart, dM1, vSplit, vJoin, dCM, vAppend, vExtend, vClear, vPop, vRev, hSubL, dRaise, vIx_str, vIx_tup, vIx_lst, vIx_lsk, vIx_cell, vAdd_int, vAdd_str, vAdd_ll, vAdd_lc, vAdd_cl, vAdd_cc, vLen_str, vLen_lst, vLen_lsk, vLen_tup, vLen_cell, asX_cell, asS_cell, asL_lst, asL_lsk, asX_lst, asS_lst, asS_lsk, asS_tup, vEqB_str, vEqB_int, vNeB_str, vNeB_int, vIsB, vI1, vI2, vAll, vAny, vSum, vIsi, vSlL, vSlS, resF, resC, startD, DEnds.of, List.map_cons, List.map_nil, List.length_cons, List.length_nil, List.replicate, List.cons_append, List.nil_append, List.append_nil, List.getElem?_cons_zero, List.getElem?_cons_succ, List.set_cons_zero, List.set_cons_succ, List.getElem?_nil, List.set_nil, Nat.reduceAdd, Nat.reduceSub, Nat.zero_add, Nat.sub_zero, Option.some.injEq, exists_eq_left', exists_eq_left, exists_and_left, exists_eq_right, true_and, and_true, D.str.injEq, D.int.injEq, D.bl.injEq, D.lst.injEq, D.tup.injEq, D.cell.injEq, D.dic.injEq, D.lsk.injEq, D.ty.injEq, D.ref.injEq, MO.lst.injEq, MO.dic.injEq, MO.dit.injEq, MO.ins.injEq, List.cons.injEq, reduceCtorEq, false_and, and_false, exists_false, or_false, false_or, if_true, if_false, ite_true, ite_false, Bool.false_eq_true, and_assoc, exists_const, exists_prop]
          have ref : ∀ s, tyD μ' d = some s → kitB s "str" = some false → (∀ q : QR, q (.val (.bl false)) μ' → vEqB d (.str "") μ' q) → sp__law_found K A [d] μ' (resF fun x μ1 => vNeB x (D.str (Str.ofString "refused")) μ1 (resF fun d_1 μ1 => ∃ c, d_1 = D.bl c ∧ if c = true then FinR [] qr (D.bl false) μ1 else ∃ x, some d = x)) (fun cls μ1 => FinX [] Ex cls μ1) := fun s h1 h2 h3 => by
            refine ⟨_, rfl, .inr ⟨s, h1, h2, h3, ?_⟩⟩
            simp only [resF, resC, vIx_str, vIx_tup, vIx_lst, vIx_lsk, vIx_cell, vAdd_int, vAdd_str, vAdd_ll, vAdd_lc, vAdd_cl, vAdd_cc, vLen_str, vLen_lst, vLen_lsk, vLen_tup, vLen_cell, asX_cell, asS_cell, asL_lst, asL_lsk, asX_lst, asS_lst, asS_lsk, asS_tup, vEqB_str, vEqB_int, vNeB_str, vNeB_int, D.str.injEq, D.int.injEq, D.bl.injEq, D.lst.injEq, D.tup.injEq, D.cell.injEq, D.ref.injEq, MO.lst.injEq, List.cons.injEq, reduceCtorEq, false_and, and_false, exists_false, or_false, false_or, exists_eq_left', exists_eq_left, exists_and_left, exists_eq_right, true_and, and_true, Option.some.injEq, if_true, if_false, Bool.false_eq_true, and_assoc]
            simp
          simp only [List.mem_cons, List.not_mem_nil, or_false] at hm
          rcases hm with rfl | rfl | rfl | rfl | rfl
          · exact ref "NoneType" rfl rfl fun q hq => .inl ⟨.non, .str "", rfl, rfl, rfl, by simpa using hq⟩
          · exact ref "int" rfl rfl fun q hq => .inl ⟨.int 7, .str "", rfl, rfl, rfl, by simpa using hq⟩
          · exact ref "bool" rfl rfl fun q hq => .inl ⟨.bl true, .str "", rfl, rfl, rfl, by simpa using hq⟩
          · exact ref "list" rfl rfl fun q hq => .inr ⟨ok_tups hw, by simp only [DL.seen, D.ok]; exact strOk_iff.mpr (by decide), by
              show q (.val (.bl (deq (.lst (ms.map tupD)) (.str "")))) μ'
              rw [show deq (.lst (ms.map tupD)) (.str "") = false by simp [deq, D.pd, PyData.eqv]]
              exact hq⟩
          · exact ref "tuple" rfl rfl fun q hq => .inr ⟨by
              show D.okL 63 ((["a", "b", "c"] : List Str).map D.str) = true
              exact okL_map _ fun w hw' => by
                simp only [D.ok]
                exact name_ok ((show ∀ w ∈ (["a", "b", "c"] : List Str), isNameS w = true by decide) w hw'), by simp only [DL.seen, D.ok]; exact strOk_iff.mpr (by decide), by
              show q (.val (.bl (deq (.tup [D.str "a", D.str "b", D.str "c"]) (.str "")))) μ'
              rw [show deq (.tup [D.str "a", D.str "b", D.str "c"]) (.str "") = false by simp [deq, D.pd, PyData.eqv]]
              exact hq⟩
        · rintro ρ μ' ⟨o3, o7, rfl⟩
          simp only [bx_K, bx_P, bx_w, bx_mg, bx_base, dFnv, dCallL, dVar, dC, dK, dNil, dCons, dOp, dUn, dCB, dB, dNot, dAnd, dOr, dAndV, dOrV, dNotV, dIf, dChain, dNext, dSeq, dGh, dDrop, dRet, dRetN, dIfS, dBreak, dCont, hName, hNil, hCons, hTup, dAsg, dTup, dLst, dLstC, dCallG, vOp, vUn, vCB, vI, vIc, diL, diT, diR1, diR2, diLK, diS, dFor, dLc, dLcC, dYes, dPar, dDnewC, dDnew, dSl, dNoPart, dPart, dM1, vSplit, vJoin, dCM, vAppend, vExtend, vClear, vPop, vRev, hSubL, dRaise, vIx_str, vIx_tup, vIx_lst, vIx_lsk, vIx_cell, vAdd_int, vAdd_str, vAdd_ll, vAdd_lc, vAdd_cl, vAdd_cc, vLen_str, vLen_lst, vLen_lsk, vLen_tup, vLen_cell, asX_cell, asS_cell, asL_lst, asL_lsk, asX_lst, asS_lst, asS_lsk, asS_tup, vEqB_str, vEqB_int, vNeB_str, vNeB_int, vIsB, vI1, vI2, vAll, vAny, vSum, vIsi, vSlL, vSlS, resF, resC, startD, DEnds.of, List.map_cons, List.map_nil, List.length_cons, List.length_nil, List.replicate, List.cons_append, List.nil_append, List.append_nil, List.getElem?_cons_zero, List.getElem?_cons_succ, List.set_cons_zero, List.set_cons_succ, List.getElem?_nil, List.set_nil, Nat.reduceAdd, Nat.reduceSub, Nat.zero_add, Nat.sub_zero, Option.some.injEq, exists_eq_left', exists_eq_left, exists_and_left, exists_eq_right, true_and, and_true, D.str.injEq, D.int.injEq, D.bl.injEq, D.lst.injEq, D.tup.injEq, D.cell.injEq, D.dic.injEq, D.lsk.injEq, D.ty.injEq, D.ref.injEq, MO.lst.injEq, MO.dic.injEq, MO.dit.injEq, MO.ins.injEq, List.cons.injEq, reduceCtorEq, false_and, and_false, exists_false, or_false, false_or, if_true, if_false, ite_true, ite_false, Bool.false_eq_true, and_assoc, exists_const, exists_prop]
          refine ⟨_, rfl, .inl ⟨_, rfl, by omega, ?_⟩⟩
          rw [hfd]
          simp only [resF, resC, vIx_str, vIx_tup, vIx_lst, vIx_lsk, vIx_cell, vAdd_int, vAdd_str, vAdd_ll, vAdd_lc, vAdd_cl, vAdd_cc, vLen_str, vLen_lst, vLen_lsk, vLen_tup, vLen_cell, asX_cell, asS_cell, asL_lst, asL_lsk, asX_lst, asS_lst, asS_lsk, asS_tup, vEqB_str, vEqB_int, vNeB_str, vNeB_int, D.str.injEq, D.int.injEq, D.bl.injEq, D.lst.injEq, D.tup.injEq, D.cell.injEq, D.ref.injEq, MO.lst.injEq, List.cons.injEq, reduceCtorEq, false_and, and_false, exists_false, or_false, false_or, exists_eq_left', exists_eq_left, exists_and_left, exists_eq_right, true_and, and_true, Option.some.injEq, if_true, if_false, Bool.false_eq_true, and_assoc]
          refine eqT _ _ ?_
          simp only [resF, resC, vIx_str, vIx_tup, vIx_lst, vIx_lsk, vIx_cell, vAdd_int, vAdd_str, vAdd_ll, vAdd_lc, vAdd_cl, vAdd_cc, vLen_str, vLen_lst, vLen_lsk, vLen_tup, vLen_cell, asX_cell, asS_cell, asL_lst, asL_lsk, asX_lst, asS_lst, asS_lsk, asS_tup, vEqB_str, vEqB_int, vNeB_str, vNeB_int, D.str.injEq, D.int.injEq, D.bl.injEq, D.lst.injEq, D.tup.injEq, D.cell.injEq, D.ref.injEq, MO.lst.injEq, List.cons.injEq, reduceCtorEq, false_and, and_false, exists_false, or_false, false_or, exists_eq_left', exists_eq_left, exists_and_left, exists_eq_right, true_and, and_true, Option.some.injEq, if_true, if_false, Bool.false_eq_true, and_assoc]
          refine ⟨_, rfl, .inl ⟨_, rfl, by decide, ?_⟩⟩
          rw [show foundD "" = .lst [] from rfl]
          simp only [resF, resC, vIx_str, vIx_tup, vIx_lst, vIx_lsk, vIx_cell, vAdd_int, vAdd_str, vAdd_ll, vAdd_lc, vAdd_cl, vAdd_cc, vLen_str, vLen_lst, vLen_lsk, vLen_tup, vLen_cell, asX_cell, asS_cell, asL_lst, asL_lsk, asX_lst, asS_lst, asS_lsk, asS_tup, vEqB_str, vEqB_int, vNeB_str, vNeB_int, D.str.injEq, D.int.injEq, D.bl.injEq, D.lst.injEq, D.tup.injEq, D.cell.injEq, D.ref.injEq, MO.lst.injEq, List.cons.injEq, reduceCtorEq, false_and, and_false, exists_false, or_false, false_or, exists_eq_left', exists_eq_left, exists_and_left, exists_eq_right, true_and, and_true, Option.some.injEq, if_true, if_false, Bool.false_eq_true, and_assoc]
          refine ⟨by omega, .inr ⟨by rfl, by rfl, ?_⟩⟩
          simp only [resF, resC, vIx_str, vIx_tup, vIx_lst, vIx_lsk, vIx_cell, vAdd_int, vAdd_str, vAdd_ll, vAdd_lc, vAdd_cl, vAdd_cc, vLen_str, vLen_lst, vLen_lsk, vLen_tup, vLen_cell, asX_cell, asS_cell, asL_lst, asL_lsk, asX_lst, asS_lst, asS_lsk, asS_tup, vEqB_str, vEqB_int, vNeB_str, vNeB_int, D.str.injEq, D.int.injEq, D.bl.injEq, D.lst.injEq, D.tup.injEq, D.cell.injEq, D.ref.injEq, MO.lst.injEq, List.cons.injEq, reduceCtorEq, false_and, and_false, exists_false, or_false, false_or, exists_eq_left', exists_eq_left, exists_and_left, exists_eq_right, true_and, and_true, Option.some.injEq, if_true, if_false, Bool.false_eq_true, and_assoc]
          rw [if_pos (by simp [DL.seen, deq_lst])]
          refine ⟨by omega, [], rfl, by decide, fun m hm => (nomatch hm), ?_⟩
          simp only [resF, resC, vIx_str, vIx_tup, vIx_lst, vIx_lsk, vIx_cell, vAdd_int, vAdd_str, vAdd_ll, vAdd_lc, vAdd_cl, vAdd_cc, vLen_str, vLen_lst, vLen_lsk, vLen_tup, vLen_cell, asX_cell, asS_cell, asL_lst, asL_lsk, asX_lst, asS_lst, asS_lsk, asS_tup, vEqB_str, vEqB_int, vNeB_str, vNeB_int, D.str.injEq, D.int.injEq, D.bl.injEq, D.lst.injEq, D.tup.injEq, D.cell.injEq, D.ref.injEq, MO.lst.injEq, List.cons.injEq, reduceCtorEq, false_and, and_false, exists_false, or_false, false_or, exists_eq_left', exists_eq_left, exists_and_left, exists_eq_right, true_and, and_true, Option.some.injEq, if_true, if_false, Bool.false_eq_true, and_assoc]
          rw [show decide (movesS [] = Str.ofString "") = true from rfl]
          exact .law h⟩
end
theorem all_mk {P : Program} {w : World} {K : PySem.W.Frag} {h : Heap} {mg : Str → Option Value} {fa : Addr} (X : K.In h) (G : h.Ns mainGlobals mg) (hfa : mg "law" = some (.ref fa))
    {c_EvenError : Addr}
    {c_NoWeb : Addr}
    {c_NoHand : Addr}
    {c_NoGoods : Addr}
    {c_NoPiece : Addr}
    {c_NoStand : Addr}
    {c_NoMove : Addr}
    {c_NoText : Addr}
    {g_is_name : Addr} {oc_is_name kV_is_name dc_is_name pm_is_name cd_is_name ct_is_name : Value} {od_is_name an_is_name : Option Addr} {sl_is_name : Array (Option Value)}
    {g_rows_of : Addr} {oc_rows_of kV_rows_of dc_rows_of pm_rows_of cd_rows_of ct_rows_of : Value} {od_rows_of an_rows_of : Option Addr} {sl_rows_of : Array (Option Value)}
    {g_moves_text : Addr} {oc_moves_text kV_moves_text dc_moves_text pm_moves_text cd_moves_text ct_moves_text : Value} {od_moves_text an_moves_text : Option Addr} {sl_moves_text : Array (Option Value)}
    {g_read_moves : Addr} {oc_read_moves kV_read_moves dc_read_moves pm_read_moves cd_read_moves ct_read_moves : Value} {od_read_moves an_read_moves : Option Addr} {sl_read_moves : Array (Option Value)}
    {g__law_cell_at : Addr} {oc__law_cell_at kV__law_cell_at dc__law_cell_at pm__law_cell_at cd__law_cell_at ct__law_cell_at : Value} {od__law_cell_at an__law_cell_at : Option Addr} {sl__law_cell_at : Array (Option Value)}
    {g__law_digit : Addr} {oc__law_digit kV__law_digit dc__law_digit pm__law_digit cd__law_digit ct__law_digit : Value} {od__law_digit an__law_digit : Option Addr} {sl__law_digit : Array (Option Value)}
    {g__law_name : Addr} {oc__law_name kV__law_name dc__law_name pm__law_name cd__law_name ct__law_name : Value} {od__law_name an__law_name : Option Addr} {sl__law_name : Array (Option Value)}
    {g__law_found : Addr} {oc__law_found kV__law_found dc__law_found pm__law_found cd__law_found ct__law_found : Value} {od__law_found an__law_found : Option Addr} {sl__law_found : Array (Option Value)}
    {g__law_due : Addr} {oc__law_due kV__law_due dc__law_due pm__law_due cd__law_due ct__law_due : Value} {od__law_due an__law_due : Option Addr} {sl__law_due : Array (Option Value)}
    {g__law_spoiled : Addr} {oc__law_spoiled kV__law_spoiled dc__law_spoiled pm__law_spoiled cd__law_spoiled ct__law_spoiled : Value} {od__law_spoiled an__law_spoiled : Option Addr} {sl__law_spoiled : Array (Option Value)}
    {g_law : Addr} {oc_law kV_law dc_law pm_law cd_law ct_law : Value} {od_law an_law : Option Addr} {sl_law : Array (Option Value)}
    {t_LETTERS : Tok}
    (a_is_name : PySem.W.nsIn K mainGlobals "is_name" = some (some (.ref g_is_name)))
    (l_is_name : K.lookup g_is_name = some ⟨oc_is_name, od_is_name, .func (PySem.W.fnOf "is_name" "is_name" (defArgs (top 11)) (defBody (top 11)) (defScope (top 11)) .none kV_is_name dc_is_name pm_is_name an_is_name cd_is_name ct_is_name), sl_is_name⟩)
    (q_is_name : PySem.W.codeIn K cd_is_name "is_name" = true)
    (k_is_name : PySem.W.keepIn K (.ref g_is_name) = true)
    (a_rows_of : PySem.W.nsIn K mainGlobals "rows_of" = some (some (.ref g_rows_of)))
    (l_rows_of : K.lookup g_rows_of = some ⟨oc_rows_of, od_rows_of, .func (PySem.W.fnOf "rows_of" "rows_of" (defArgs (top 13)) (defBody (top 13)) (defScope (top 13)) .none kV_rows_of dc_rows_of pm_rows_of an_rows_of cd_rows_of ct_rows_of), sl_rows_of⟩)
    (q_rows_of : PySem.W.codeIn K cd_rows_of "rows_of" = true)
    (k_rows_of : PySem.W.keepIn K (.ref g_rows_of) = true)
    (a_moves_text : PySem.W.nsIn K mainGlobals "moves_text" = some (some (.ref g_moves_text)))
    (l_moves_text : K.lookup g_moves_text = some ⟨oc_moves_text, od_moves_text, .func (PySem.W.fnOf "moves_text" "moves_text" (defArgs (top 14)) (defBody (top 14)) (defScope (top 14)) .none kV_moves_text dc_moves_text pm_moves_text an_moves_text cd_moves_text ct_moves_text), sl_moves_text⟩)
    (q_moves_text : PySem.W.codeIn K cd_moves_text "moves_text" = true)
    (k_moves_text : PySem.W.keepIn K (.ref g_moves_text) = true)
    (a_read_moves : PySem.W.nsIn K mainGlobals "read_moves" = some (some (.ref g_read_moves)))
    (l_read_moves : K.lookup g_read_moves = some ⟨oc_read_moves, od_read_moves, .func (PySem.W.fnOf "read_moves" "read_moves" (defArgs (top 15)) (defBody (top 15)) (defScope (top 15)) .none kV_read_moves dc_read_moves pm_read_moves an_read_moves cd_read_moves ct_read_moves), sl_read_moves⟩)
    (q_read_moves : PySem.W.codeIn K cd_read_moves "read_moves" = true)
    (k_read_moves : PySem.W.keepIn K (.ref g_read_moves) = true)
    (a__law_cell_at : PySem.W.nsIn K mainGlobals "_law_cell_at" = some (some (.ref g__law_cell_at)))
    (l__law_cell_at : K.lookup g__law_cell_at = some ⟨oc__law_cell_at, od__law_cell_at, .func (PySem.W.fnOf "_law_cell_at" "_law_cell_at" (defArgs (top 17)) (defBody (top 17)) (defScope (top 17)) .none kV__law_cell_at dc__law_cell_at pm__law_cell_at an__law_cell_at cd__law_cell_at ct__law_cell_at), sl__law_cell_at⟩)
    (q__law_cell_at : PySem.W.codeIn K cd__law_cell_at "_law_cell_at" = true)
    (k__law_cell_at : PySem.W.keepIn K (.ref g__law_cell_at) = true)
    (a__law_digit : PySem.W.nsIn K mainGlobals "_law_digit" = some (some (.ref g__law_digit)))
    (l__law_digit : K.lookup g__law_digit = some ⟨oc__law_digit, od__law_digit, .func (PySem.W.fnOf "_law_digit" "_law_digit" (defArgs (top 18)) (defBody (top 18)) (defScope (top 18)) .none kV__law_digit dc__law_digit pm__law_digit an__law_digit cd__law_digit ct__law_digit), sl__law_digit⟩)
    (q__law_digit : PySem.W.codeIn K cd__law_digit "_law_digit" = true)
    (k__law_digit : PySem.W.keepIn K (.ref g__law_digit) = true)
    (a__law_name : PySem.W.nsIn K mainGlobals "_law_name" = some (some (.ref g__law_name)))
    (l__law_name : K.lookup g__law_name = some ⟨oc__law_name, od__law_name, .func (PySem.W.fnOf "_law_name" "_law_name" (defArgs (top 19)) (defBody (top 19)) (defScope (top 19)) .none kV__law_name dc__law_name pm__law_name an__law_name cd__law_name ct__law_name), sl__law_name⟩)
    (q__law_name : PySem.W.codeIn K cd__law_name "_law_name" = true)
    (k__law_name : PySem.W.keepIn K (.ref g__law_name) = true)
    (a__law_found : PySem.W.nsIn K mainGlobals "_law_found" = some (some (.ref g__law_found)))
    (l__law_found : K.lookup g__law_found = some ⟨oc__law_found, od__law_found, .func (PySem.W.fnOf "_law_found" "_law_found" (defArgs (top 20)) (defBody (top 20)) (defScope (top 20)) .none kV__law_found dc__law_found pm__law_found an__law_found cd__law_found ct__law_found), sl__law_found⟩)
    (q__law_found : PySem.W.codeIn K cd__law_found "_law_found" = true)
    (k__law_found : PySem.W.keepIn K (.ref g__law_found) = true)
    (a__law_due : PySem.W.nsIn K mainGlobals "_law_due" = some (some (.ref g__law_due)))
    (l__law_due : K.lookup g__law_due = some ⟨oc__law_due, od__law_due, .func (PySem.W.fnOf "_law_due" "_law_due" (defArgs (top 21)) (defBody (top 21)) (defScope (top 21)) .none kV__law_due dc__law_due pm__law_due an__law_due cd__law_due ct__law_due), sl__law_due⟩)
    (q__law_due : PySem.W.codeIn K cd__law_due "_law_due" = true)
    (k__law_due : PySem.W.keepIn K (.ref g__law_due) = true)
    (a__law_spoiled : PySem.W.nsIn K mainGlobals "_law_spoiled" = some (some (.ref g__law_spoiled)))
    (l__law_spoiled : K.lookup g__law_spoiled = some ⟨oc__law_spoiled, od__law_spoiled, .func (PySem.W.fnOf "_law_spoiled" "_law_spoiled" (defArgs (top 22)) (defBody (top 22)) (defScope (top 22)) .none kV__law_spoiled dc__law_spoiled pm__law_spoiled an__law_spoiled cd__law_spoiled ct__law_spoiled), sl__law_spoiled⟩)
    (q__law_spoiled : PySem.W.codeIn K cd__law_spoiled "_law_spoiled" = true)
    (k__law_spoiled : PySem.W.keepIn K (.ref g__law_spoiled) = true)
    (a_law : PySem.W.nsIn K mainGlobals "law" = some (some (.ref g_law)))
    (l_law : K.lookup g_law = some ⟨oc_law, od_law, .func (PySem.W.fnOf "law" "law" (defArgs (top 23)) (defBody (top 23)) (defScope (top 23)) .none kV_law dc_law pm_law an_law cd_law ct_law), sl_law⟩)
    (q_law : PySem.W.codeIn K cd_law "law" = true)
    (k_law : PySem.W.keepIn K (.ref g_law) = true)
    (b_ValueError : PySem.W.nsIn K mainGlobals "ValueError" = some (none))
    (b_all : PySem.W.nsIn K mainGlobals "all" = some (none))
    (b_int : PySem.W.nsIn K mainGlobals "int" = some (none))
    (b_isinstance : PySem.W.nsIn K mainGlobals "isinstance" = some (none))
    (b_len : PySem.W.nsIn K mainGlobals "len" = some (none))
    (b_list : PySem.W.nsIn K mainGlobals "list" = some (none))
    (b_max : PySem.W.nsIn K mainGlobals "max" = some (none))
    (b_min : PySem.W.nsIn K mainGlobals "min" = some (none))
    (b_range : PySem.W.nsIn K mainGlobals "range" = some (none))
    (b_str : PySem.W.nsIn K mainGlobals "str" = some (none))
    (b_tuple : PySem.W.nsIn K mainGlobals "tuple" = some (none))
    (a_LETTERS : PySem.W.nsIn K mainGlobals "LETTERS" = some (some (.str "abcdefghijklmnopqrstuvwxyz" t_LETTERS)))
    (a_EvenError : PySem.W.nsIn K mainGlobals "EvenError" = some (some (.ref c_EvenError)))
    (a_NoGoods : PySem.W.nsIn K mainGlobals "NoGoods" = some (some (.ref c_NoGoods)))
    (a_NoHand : PySem.W.nsIn K mainGlobals "NoHand" = some (some (.ref c_NoHand)))
    (a_NoMove : PySem.W.nsIn K mainGlobals "NoMove" = some (some (.ref c_NoMove)))
    (a_NoPiece : PySem.W.nsIn K mainGlobals "NoPiece" = some (some (.ref c_NoPiece)))
    (a_NoStand : PySem.W.nsIn K mainGlobals "NoStand" = some (some (.ref c_NoStand)))
    (a_NoText : PySem.W.nsIn K mainGlobals "NoText" = some (some (.ref c_NoText)))
    (a_NoWeb : PySem.W.nsIn K mainGlobals "NoWeb" = some (some (.ref c_NoWeb)))
    (xx_NoText : PySem.W.excIn K c_NoText [.type "ValueError", .type "Exception", .type "BaseException", .type "object"] "ValueError.__new__" = true)
    (xk_NoText : PySem.W.keepIn K (.ref c_NoText) = true)
    (xb_NoText : PySem.W.subIn K (.ref c_NoText) (.type "BaseException") = some true)
    (xt_NoText : PySem.W.typeIn K (.ref c_NoText) = some (.type "type"))
    (ehg_NoText : PySem.W.findIn K (.ref c_NoText) "__getattribute__" = some (some (.builtin "BaseException.__getattribute__")))
    (ehk_NoText : PySem.W.findIn K (.ref c_NoText) "__getattr__" = some none)
    (ehs_NoText : PySem.W.subIn K (.ref c_NoText) (.type "BaseException") = some true)
    (ehd_NoText : PySem.W.hasDictIn K c_NoText = true)
    (eha_NoText : PySem.W.findIn K (.ref c_NoText) "__class__" = some (some (.builtin "object.__class__")))
    (ehn_NoText : PySem.W.specialIn K (.builtin "object.__class__") "__get__" = some (some (.builtin "getset_descriptor.__get__")))
    (eht_NoText : PySem.W.takesIn K (.builtin "object.__class__") = some true)
    (ehm_NoText : PySem.W.mroIn K c_NoText (.type "object") = some true)
    (kb_NoText : PySem.W.subIn K (.ref c_NoText) (.type "BaseException") = some true)
    (ki_NoText : PySem.W.isClsIn K c_NoText = true)
    (kt_NoText : PySem.W.typeIn K (.ref c_NoText) = some (.type "type"))
    (ks_NoText_NoText : PySem.W.subIn K (.ref c_NoText) (.ref c_NoText) = some true)
    (ki_EvenError : PySem.W.isClsIn K c_EvenError = true)
    (kt_EvenError : PySem.W.typeIn K (.ref c_EvenError) = some (.type "type"))
    (ks_EvenError_EvenError : PySem.W.subIn K (.ref c_EvenError) (.ref c_EvenError) = some true)
    (ks_NoText_EvenError : PySem.W.subIn K (.ref c_NoText) (.ref c_EvenError) = some true)
    (ks_NoText_ValueError : PySem.W.subIn K (.ref c_NoText) (.type "ValueError") = some true)
    (ki_NoWeb : PySem.W.isClsIn K c_NoWeb = true)
    (kt_NoWeb : PySem.W.typeIn K (.ref c_NoWeb) = some (.type "type"))
    (ks_NoWeb_NoWeb : PySem.W.subIn K (.ref c_NoWeb) (.ref c_NoWeb) = some true)
    (ks_NoText_NoWeb : PySem.W.subIn K (.ref c_NoText) (.ref c_NoWeb) = some false)
    (ki_NoStand : PySem.W.isClsIn K c_NoStand = true)
    (kt_NoStand : PySem.W.typeIn K (.ref c_NoStand) = some (.type "type"))
    (ks_NoStand_NoStand : PySem.W.subIn K (.ref c_NoStand) (.ref c_NoStand) = some true)
    (ks_NoText_NoStand : PySem.W.subIn K (.ref c_NoText) (.ref c_NoStand) = some false)
    (ki_NoPiece : PySem.W.isClsIn K c_NoPiece = true)
    (kt_NoPiece : PySem.W.typeIn K (.ref c_NoPiece) = some (.type "type"))
    (ks_NoPiece_NoPiece : PySem.W.subIn K (.ref c_NoPiece) (.ref c_NoPiece) = some true)
    (ks_NoText_NoPiece : PySem.W.subIn K (.ref c_NoText) (.ref c_NoPiece) = some false)
    (ki_NoMove : PySem.W.isClsIn K c_NoMove = true)
    (kt_NoMove : PySem.W.typeIn K (.ref c_NoMove) = some (.type "type"))
    (ks_NoMove_NoMove : PySem.W.subIn K (.ref c_NoMove) (.ref c_NoMove) = some true)
    (ks_NoText_NoMove : PySem.W.subIn K (.ref c_NoText) (.ref c_NoMove) = some false)
    (ki_NoHand : PySem.W.isClsIn K c_NoHand = true)
    (kt_NoHand : PySem.W.typeIn K (.ref c_NoHand) = some (.type "type"))
    (ks_NoHand_NoHand : PySem.W.subIn K (.ref c_NoHand) (.ref c_NoHand) = some true)
    (ks_NoText_NoHand : PySem.W.subIn K (.ref c_NoText) (.ref c_NoHand) = some false)
    (ki_NoGoods : PySem.W.isClsIn K c_NoGoods = true)
    (kt_NoGoods : PySem.W.typeIn K (.ref c_NoGoods) = some (.type "type"))
    (ks_NoGoods_NoGoods : PySem.W.subIn K (.ref c_NoGoods) (.ref c_NoGoods) = some true)
    (ks_NoText_NoGoods : PySem.W.subIn K (.ref c_NoText) (.ref c_NoGoods) = some false)
    : ∃ fd : FuncData, (∀ (s : Shared) (v : Value), BindsTo s fd ⟨[v], []⟩ [("_law_script", v)]) ∧ ∀ base : Heap, K.In base → base.Ns mainGlobals mg → FnOk P w K mg base (L2.CX P w) 4 fa fd ["_law_script"] (spLawV K) := by
  have T : Txt K mg { c_EvenError := c_EvenError, c_NoWeb := c_NoWeb, c_NoHand := c_NoHand, c_NoGoods := c_NoGoods, c_NoPiece := c_NoPiece, c_NoStand := c_NoStand, c_NoMove := c_NoMove, c_NoText := c_NoText } := {
    f_is_name := topFn_mk X G a_is_name l_is_name q_is_name k_is_name (fun _ _ _ _ _ _ us hl => match us, hl with | [_], _ => rfl),
    f_rows_of := topFn_mk X G a_rows_of l_rows_of q_rows_of k_rows_of (fun _ _ _ _ _ _ us hl => match us, hl with | [_], _ => rfl),
    f_moves_text := topFn_mk X G a_moves_text l_moves_text q_moves_text k_moves_text (fun _ _ _ _ _ _ us hl => match us, hl with | [_], _ => rfl),
    f_read_moves := topFn_mk X G a_read_moves l_read_moves q_read_moves k_read_moves (fun _ _ _ _ _ _ us hl => match us, hl with | [_], _ => rfl),
    f__law_cell_at := topFn_mk X G a__law_cell_at l__law_cell_at q__law_cell_at k__law_cell_at (fun _ _ _ _ _ _ us hl => match us, hl with | [_, _], _ => rfl),
    f__law_digit := topFn_mk X G a__law_digit l__law_digit q__law_digit k__law_digit (fun _ _ _ _ _ _ us hl => match us, hl with | [_, _], _ => rfl),
    f__law_name := topFn_mk X G a__law_name l__law_name q__law_name k__law_name (fun _ _ _ _ _ _ us hl => match us, hl with | [_], _ => rfl),
    f__law_found := topFn_mk X G a__law_found l__law_found q__law_found k__law_found (fun _ _ _ _ _ _ us hl => match us, hl with | [_], _ => rfl),
    f__law_due := topFn_mk X G a__law_due l__law_due q__law_due k__law_due (fun _ _ _ _ _ _ us hl => match us, hl with | [_], _ => rfl),
    f__law_spoiled := topFn_mk X G a__law_spoiled l__law_spoiled q__law_spoiled k__law_spoiled (fun _ _ _ _ _ _ us hl => match us, hl with | [_, _], _ => rfl),
    f_law := topFn_mk X G a_law l_law q_law k_law (fun _ _ _ _ _ _ us hl => match us, hl with | [_], _ => rfl),
    b_ValueError := PySem.W.mg_none_of X G b_ValueError,
    b_all := PySem.W.mg_none_of X G b_all,
    b_int := PySem.W.mg_none_of X G b_int,
    b_isinstance := PySem.W.mg_none_of X G b_isinstance,
    b_len := PySem.W.mg_none_of X G b_len,
    b_list := PySem.W.mg_none_of X G b_list,
    b_max := PySem.W.mg_none_of X G b_max,
    b_min := PySem.W.mg_none_of X G b_min,
    b_range := PySem.W.mg_none_of X G b_range,
    b_str := PySem.W.mg_none_of X G b_str,
    b_tuple := PySem.W.mg_none_of X G b_tuple,
    k_LETTERS := const_str X G a_LETTERS,
    g_EvenError := PySem.W.mg_of X G a_EvenError,
    g_NoGoods := PySem.W.mg_of X G a_NoGoods,
    g_NoHand := PySem.W.mg_of X G a_NoHand,
    g_NoMove := PySem.W.mg_of X G a_NoMove,
    g_NoPiece := PySem.W.mg_of X G a_NoPiece,
    g_NoStand := PySem.W.mg_of X G a_NoStand,
    g_NoText := PySem.W.mg_of X G a_NoText,
    g_NoWeb := PySem.W.mg_of X G a_NoWeb,
    x_NoText := ⟨PySem.W.mg_of X G a_NoText, xx_NoText, xk_NoText, xb_NoText, xt_NoText⟩,
    e_NoText := ⟨ehg_NoText, ehk_NoText, ehs_NoText, ehd_NoText, eha_NoText, ehn_NoText, eht_NoText, ehm_NoText⟩,
    exm_NoText_NoText := (exm_own kb_NoText ki_NoText kt_NoText ks_NoText_NoText),
    kit_NoText_EvenError := (kit_own ki_EvenError kt_EvenError ks_EvenError_EvenError ks_NoText_EvenError),
    kit_NoText_ValueError := (kit_tyE (by decide) ks_NoText_ValueError),
    kita_NoText_NoGoods := (kita_cons (kit_own ki_NoGoods kt_NoGoods ks_NoGoods_NoGoods ks_NoText_NoGoods) (kita_cons (kit_own ki_NoHand kt_NoHand ks_NoHand_NoHand ks_NoText_NoHand) (kita_cons (kit_own ki_NoMove kt_NoMove ks_NoMove_NoMove ks_NoText_NoMove) (kita_cons (kit_own ki_NoPiece kt_NoPiece ks_NoPiece_NoPiece ks_NoText_NoPiece) (kita_cons (kit_own ki_NoStand kt_NoStand ks_NoStand_NoStand ks_NoText_NoStand) (kita_cons (kit_own ki_NoWeb kt_NoWeb ks_NoWeb_NoWeb ks_NoText_NoWeb) kita_nil)))))) }
  cases hfa.symm.trans (PySem.W.mg_of X G a_law)
  exact ⟨_, fun s v => .of_eq rfl, fun base _ _ => (ok_law T (fun_mk (st := top 23) l_law q_law k_law)).imp fun _ _ _ _ h => law_sp h⟩
end LW
open PySem PySem.W PyProof.Rows in
set_option maxRecDepth 100000 in
set_option maxHeartbeats 0 in
theorem PySem.Challenge.cw_evenpieces_k74_moves_as_texts_holds : PySem.Challenge.rw_evenpieces_k74_moves_as_texts.Holds := by
  w_on; o_law; k_head; (case hw => w_witness2)
  k_fill
  refine DL.walk (l := PySem.Challenge.rw_evenpieces_k74_moves_as_texts) (k := 4) rfl rfl ⟨rfl, by decide, by decide⟩ (fun w h Y => PySem.W.kIn_of Y) ?F
  case F =>
    intro w mg fa h KX G hmg
    refine' LW.all_mk KX G hmg ?a_is_name ?l_is_name ?q_is_name ?k_is_name ?a_rows_of ?l_rows_of ?q_rows_of ?k_rows_of ?a_moves_text ?l_moves_text ?q_moves_text ?k_moves_text ?a_read_moves ?l_read_moves ?q_read_moves ?k_read_moves ?a__law_cell_at ?l__law_cell_at ?q__law_cell_at ?k__law_cell_at ?a__law_digit ?l__law_digit ?q__law_digit ?k__law_digit ?a__law_name ?l__law_name ?q__law_name ?k__law_name ?a__law_found ?l__law_found ?q__law_found ?k__law_found ?a__law_due ?l__law_due ?q__law_due ?k__law_due ?a__law_spoiled ?l__law_spoiled ?q__law_spoiled ?k__law_spoiled ?a_law ?l_law ?q_law ?k_law ?b_ValueError ?b_all ?b_int ?b_isinstance ?b_len ?b_list ?b_max ?b_min ?b_range ?b_str ?b_tuple ?a_LETTERS ?a_EvenError ?a_NoGoods ?a_NoHand ?a_NoMove ?a_NoPiece ?a_NoStand ?a_NoText ?a_NoWeb ?xx_NoText ?xk_NoText ?xb_NoText ?xt_NoText ?ehg_NoText ?ehk_NoText ?ehs_NoText ?ehd_NoText ?eha_NoText ?ehn_NoText ?eht_NoText ?ehm_NoText ?kb_NoText ?ki_NoText ?kt_NoText ?ks_NoText_NoText ?ki_EvenError ?kt_EvenError ?ks_EvenError_EvenError ?ks_NoText_EvenError ?ks_NoText_ValueError ?ki_NoWeb ?kt_NoWeb ?ks_NoWeb_NoWeb ?ks_NoText_NoWeb ?ki_NoStand ?kt_NoStand ?ks_NoStand_NoStand ?ks_NoText_NoStand ?ki_NoPiece ?kt_NoPiece ?ks_NoPiece_NoPiece ?ks_NoText_NoPiece ?ki_NoMove ?kt_NoMove ?ks_NoMove_NoMove ?ks_NoText_NoMove ?ki_NoHand ?kt_NoHand ?ks_NoHand_NoHand ?ks_NoText_NoHand ?ki_NoGoods ?kt_NoGoods ?ks_NoGoods_NoGoods ?ks_NoText_NoGoods
    (case a_is_name => k_is)
    (case l_is_name => k_is)
    (case q_is_name => k_is)
    (case k_is_name => k_is)
    (case a_rows_of => k_is)
    (case l_rows_of => k_is)
    (case q_rows_of => k_is)
    (case k_rows_of => k_is)
    (case a_moves_text => k_is)
    (case l_moves_text => k_is)
    (case q_moves_text => k_is)
    (case k_moves_text => k_is)
    (case a_read_moves => k_is)
    (case l_read_moves => k_is)
    (case q_read_moves => k_is)
    (case k_read_moves => k_is)
    (case a__law_cell_at => k_is)
    (case l__law_cell_at => k_is)
    (case q__law_cell_at => k_is)
    (case k__law_cell_at => k_is)
    (case a__law_digit => k_is)
    (case l__law_digit => k_is)
    (case q__law_digit => k_is)
    (case k__law_digit => k_is)
    (case a__law_name => k_is)
    (case l__law_name => k_is)
    (case q__law_name => k_is)
    (case k__law_name => k_is)
    (case a__law_found => k_is)
    (case l__law_found => k_is)
    (case q__law_found => k_is)
    (case k__law_found => k_is)
    (case a__law_due => k_is)
    (case l__law_due => k_is)
    (case q__law_due => k_is)
    (case k__law_due => k_is)
    (case a__law_spoiled => k_is)
    (case l__law_spoiled => k_is)
    (case q__law_spoiled => k_is)
    (case k__law_spoiled => k_is)
    (case a_law => k_is)
    (case l_law => k_is)
    (case q_law => k_is)
    (case k_law => k_is)
    (case b_ValueError => k_is)
    (case b_all => k_is)
    (case b_int => k_is)
    (case b_isinstance => k_is)
    (case b_len => k_is)
    (case b_list => k_is)
    (case b_max => k_is)
    (case b_min => k_is)
    (case b_range => k_is)
    (case b_str => k_is)
    (case b_tuple => k_is)
    (case a_LETTERS => k_is)
    (case a_EvenError => k_is)
    (case a_NoGoods => k_is)
    (case a_NoHand => k_is)
    (case a_NoMove => k_is)
    (case a_NoPiece => k_is)
    (case a_NoStand => k_is)
    (case a_NoText => k_is)
    (case a_NoWeb => k_is)
    (case xx_NoText => k_exc)
    (case xk_NoText => k_is)
    (case xb_NoText => k_is)
    (case xt_NoText => k_is)
    (case ehg_NoText => k_is)
    (case ehk_NoText => k_is)
    (case ehs_NoText => k_is)
    (case ehd_NoText => k_is)
    (case eha_NoText => k_is)
    (case ehn_NoText => k_is)
    (case eht_NoText => k_is)
    (case ehm_NoText => k_is)
    (case kb_NoText => k_is)
    (case ki_NoText => k_is)
    (case kt_NoText => k_is)
    (case ks_NoText_NoText => k_is)
    (case ki_EvenError => k_is)
    (case kt_EvenError => k_is)
    (case ks_EvenError_EvenError => k_is)
    (case ks_NoText_EvenError => k_is)
    (case ks_NoText_ValueError => k_is)
    (case ki_NoWeb => k_is)
    (case kt_NoWeb => k_is)
    (case ks_NoWeb_NoWeb => k_is)
    (case ks_NoText_NoWeb => k_is)
    (case ki_NoStand => k_is)
    (case kt_NoStand => k_is)
    (case ks_NoStand_NoStand => k_is)
    (case ks_NoText_NoStand => k_is)
    (case ki_NoPiece => k_is)
    (case kt_NoPiece => k_is)
    (case ks_NoPiece_NoPiece => k_is)
    (case ks_NoText_NoPiece => k_is)
    (case ki_NoMove => k_is)
    (case kt_NoMove => k_is)
    (case ks_NoMove_NoMove => k_is)
    (case ks_NoText_NoMove => k_is)
    (case ki_NoHand => k_is)
    (case kt_NoHand => k_is)
    (case ks_NoHand_NoHand => k_is)
    (case ks_NoText_NoHand => k_is)
    (case ki_NoGoods => k_is)
    (case kt_NoGoods => k_is)
    (case ks_NoGoods_NoGoods => k_is)
    (case ks_NoText_NoGoods => k_is)
#print axioms PySem.Challenge.cw_evenpieces_k74_moves_as_texts_holds
