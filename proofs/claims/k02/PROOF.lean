import PyProof.Rows.All
import Wide.All
import OpenK.AllK
import Wide.FinOn
import HandS.ForMost
import HandS.Exc
import HandS.TryOnly
import HandS.TryMany
import HandS.ExcOwn
import HandS.WordsExc
import HandS.IsInst
import HandS.ExcIs
import HandS.Lambda
import KE.KDictKeyed
import HandS.Head2
import HandS.Deep
import HandS.Style
import HandS.Wide
import HandS.TupAny
import HandS.TupLen
import HandS.DictEq
import HandS.TupSets
import HandS.WordsDict
import HandS.ListItems
import HandS.More
import HandS.Conv
import KE.SortData
import KE.KDictList
import HandS.Finally
import KE.KEqNest
import PyProof.NeKinds
import HandS.RaiseMore
import KE.KIntText
import KE.KxLen
import HandS.ExcInit
import HandS.ExcField
import KE.KIsAll
import KE.DataCmp
import PyProof.StrBlock2
import PyProof.SumAny
import KE.KBytesMore
import PyProof.Rows.CountFlat
import KE.DataFind
import KE.DataMinMax
import HandS.SortOrd
import HandS.Sort
import HandS.Defaults
import KE.KDictSum
import PyProof.TupleOfGen
import PyProof.SumWalkG
import KE.DatumOrd
import HandS.SortKw
import KE.SortKeyHeap
import PySem.Challenge.RW_evenpieces_k02_turns_of_ties
set_option Elab.async false
set_option linter.all false
set_option maxRecDepth 100000
set_option maxHeartbeats 4000000

namespace LWH
open PySem PySem.W PySem.Spec PyProof.Rows HandSHeadRun
noncomputable def vq : Program := { PySem.Challenge.pw_evenpieces_k02_turns_of_ties with main := { PySem.Challenge.pw_evenpieces_k02_turns_of_ties.main with body := [PySem.Challenge.pw_evenpieces_k02_turns_of_ties.main.body.getD 28 (.Pass ⟨0, 0, 0, 0⟩)] } }
noncomputable def lo : List PySem.Str := [Str.ofString "_wall", Str.ofString "EvenError", Str.ofString "NoWeb", Str.ofString "LETTERS", Str.ofString "is_whole", Str.ofString "is_within", Str.ofString "is_name", Str.ofString "MOST_HANDS", Str.ofString "MOST_STRENGTH", Str.ofString "is_hand_row", Str.ofString "is_pair", Str.ofString "sorted_pair", Str.ofString "sure", Str.ofString "strengths_of", Str.ofString "pairs_of", Str.ofString "Web", Str.ofString "put_into_row", Str.ofString "_law_cell_at", Str.ofString "_law_digit", Str.ofString "_law_name", Str.ofString "_law_hands", Str.ofString "_law_ties", Str.ofString "_law_first", Str.ofString "_law_due"]
theorem head_run {r : OpenRow} {q : Program} {M : Nat} {loose : List PySem.Str} {d : DefRec} {kwd : List (PySem.Str × PySem.Expr)} {K : Params → Frag} {as : List Addr} {e0 : ∀ P, as = (K P).map (·.1)} (H : Hook) (hH : H = kHook K as e0)
    (e : opening r.prog = plainProg r.prog.main.scope.names) (f : ∀ s, fenceModules? r.prog s = some s)
    (run : ∀ (w : World) (os : OsState), (endF (stepQ (denQ tabQ) r.prog w) M r.prog w os).map (fun s => (looksF r.prog (boot_heap w.params) s.abs, seenQ q loose (importedModules r.prog.main.body) (fun s => xlAt q [] s && recOk r.toRowW.records s) s.abs, as.map (getT s))) = some (true, openGood q loose, (kHook K as e0).val w))
    (hdef : defOf q r.name = some (d, kwd)) (hp : r.prog.theDef r.name = some (d.params, d.body, d.scope)) (hk : kwWritten? d.params.kwonlyargs d.params.kw_defaults = some kwd)
    (hwr : (!r.writes || r.records.isEmpty) = true) (k1 : r.wellSaid = true) (ok : (chainsOk q && opensWell r.prog && (frees r.toRowW && r.within.isEmpty)) = true) (hb : r.prog.bare) (hw : r.toRowW.promised)
    (call : WalkO q loose (XL q []) H.says r.toRowW d kwd fun f vs => PySem.call f vs) : r.Holds := by
  subst hH
  refine head_any (H := kHook K as e0) (ob := fun s => as.map (getT s)) (M := M) (fun s => ?_) e f (fun w os => run w os) hdef hp hk hwr k1 ok hb hw call
  show as.map (getT s) = as.map s.abs.heap.get?
  rw [List.map_congr_left fun a _ => getT_eq s a]
end LWH
local macro_rules | `(tactic| o_head $t) => `(tactic| refine LWH.head_run (q := LWH.vq) (M := 20000) (loose := LWH.lo) $t rfl ?e ?f ?run (by rfl) (by rfl) (by rfl) (by rfl) (by first | assumption | decide +kernel) (by decide +kernel) ⟨rfl, rfl, rfl, rfl, rfl, by decide +kernel⟩ ?hw ?hc)
open PySem PySem.W PyProof.Rows in
set_option maxRecDepth 100000 in
set_option maxHeartbeats 0 in
noncomputable def LWH.pack : (C : Prop) ×' (C → PySem.Challenge.rw_evenpieces_k02_turns_of_ties.Holds) := by
  apply PSigma.mk
  case snd =>
    intro hc
    w_on; o_law; k_head
    case e => kernel_rfl
    case f => intro s; kernel_rfl
    case run => intro w os; kernel_rfl
    (case hw => w_witness2)
    k_fill
    exact hc
/-! VL: a layer over HandS in which a def is a function on trees. What is owned by a place is a tree there; nothing owned is named twice. -/
namespace VL
open PySem PySem.Spec PyProof.Rows L2

/-- the tables in which lambdas are looked up, and the names of what they hold -/
class LamT where
  T : List (Addr × Str)
  /-- the world, where dicts with nested keys are told -/
  w : Option World := none
instance (priority := 10) noLT : LamT := { T := [] }
/-- no table -/
noncomputable def NT : HO → Prop
  | .tbl _ => False
  | _ => True
/-- neither a table nor a code object -/
noncomputable def PlO : HO → Prop
  | .tbl _ => False
  | .ext φ => ∀ c q, HO.ext φ ≠ LamX.CodeO c q
  | _ => True
theorem PlO.nt {o : HO} (h : PlO o) : NT o := by cases o <;> first | trivial | exact h.elim
/-- all but tables stays -/
structure SmN (A H : Hp) : Prop where
  k : ∀ a o, A a = some o → NT o → H a = some o
  y : ∀ a ps, A a = some (.tbl ps) → ∃ qs, H a = some (.tbl qs)
theorem nt_or (o : HO) : NT o ∨ ∃ ps, o = .tbl ps := by
  cases o <;> first | exact .inl trivial | exact .inr ⟨_, rfl⟩
theorem SmN.z {A H : Hp} (s : SmN A H) (a : Addr) (e : H a = none) : A a = none := by
  cases q : A a with
  | none => rfl
  | some o =>
    rcases nt_or o with n | ⟨ps, rfl⟩
    · rw [s.k a o q n] at e; cases e
    · obtain ⟨qs, h⟩ := s.y a ps q
      rw [h] at e; cases e
/-- what stands there now stood there ahead -/
theorem SmN.b {A H : Hp} (s : SmN A H) {a : Addr} {o u : HO} (h : H a = some o) (n : NT o) (e : A a = some u) : u = o := by
  rcases nt_or u with m | ⟨ps, rfl⟩
  · have := s.k a u e m
    rw [h] at this
    exact (Option.some.inj this).symm
  · obtain ⟨qs, q⟩ := s.y a ps e
    rw [h] at q
    cases q
    exact n.elim
theorem SmN.ex {A H : Hp} (s : SmN A H) {a : Addr} {o : HO} (e : A a = some o) : ∃ o', H a = some o' := by
  cases q : H a with
  | none => rw [s.z a q] at e; cases e
  | some o' => exact ⟨o', rfl⟩
theorem SmN.of {A H : Hp} (s : Same A H) : SmN A H := ⟨fun a o e _ => s a o e, fun a ps e => ⟨ps, s a _ e⟩⟩
theorem SmN.refl {A : Hp} : SmN A A := .of fun _ _ e => e
theorem SmN.trans {A H H' : Hp} (a : SmN A H) (b : SmN H H') : SmN A H' := ⟨fun p o e n => b.k p o (a.k p o e n) n, fun p ps e => let ⟨qs, h⟩ := a.y p ps e; b.y p qs h⟩
/-- what is settled stands in memory, and the tables are good -/
structure Sub [LamT] (G H : Hp) : Prop where
  n : SmN G H
  t : LamX.Tabs LamT.T H
instance {A H : Hp} : CoeFun (SmN A H) fun _ => ∀ a o, A a = some o → NT o → H a = some o := ⟨fun s => s.k⟩
instance [LamT] {A H : Hp} : CoeFun (Sub A H) fun _ => ∀ a o, A a = some o → NT o → H a = some o := ⟨fun s => s.n.k⟩

/-- what is known of a node: owned by its place; new, in no place yet; settled for good; lent by the caller; a locked list or one of the text -/
inductive Fl where
  | own | new | frz | bor | loc
  deriving DecidableEq
/-- a key of a dict: an int or a text; a tuple of such -/
inductive Kd where
  | k (x : Key) | t (xs : List Key)
  deriving DecidableEq
noncomputable abbrev kS (x : Str) : Kd := .k (.inr x)
/-- a nested key: (5, ("a", "b")) -/
noncomputable abbrev Nk := Int × List Str
inductive D where
  | non | bl (b : Bool) | int (i : Int) | str (x : Str) | ty (n : String) | ref (a : Addr)
  | tup (xs : List D) | tuk (xs : List D) | lst (f : Fl) (xs : List D) | dic (f : Fl) (kvs : List (Kd × D)) | dit (f : Fl) (kvs : List (Kd × D)) | obj (f : Fl) (C : Addr) (fs : List (Kd × D))
  /-- a dict with nested keys, whole numbers its values -/
  | din (f : Fl) (kvs : List (Nk × Int))
  /-- an error that a suite holds: it stands at a, its dict at d, its fields -/
  | xc (a d : Addr) (fs : List (Kd × D))
  /-- a function made by a lambda: it stands at f, what it captured -/
  | clo (f : Addr) (vs : List V) (ds : List D)
noncomputable def D.root : D → Option Fl
  | .lst f _ => some f
  | .dic f _ => some f
  | .dit f _ => some f
  | .din f _ => some f
  | .obj f _ _ => some f
  | _ => none
/-- no new root -/
noncomputable abbrev D.old (d : D) : Prop := d.root ≠ some .new
/-- a place: nothing, a tree, or the j-th thing that the def may change -/
inductive Sl where
  | no | val (d : D) | arg (j : Nat)
structure Exn where
  cls : Value
  flds : Option (List (Kd × D)) := none

/-! ### outcomes -/
inductive Out (ε α : Type) where
  | ok (a : α) | ex (e : ε) | no
namespace Out
variable {ε α β : Type}
noncomputable def bind : Out ε α → (α → Out ε β) → Out ε β
  | .ok a, f => f a
  | .ex e, _ => .ex e
  | .no, _ => .no
noncomputable def P : Out ε α → (α → Prop) → (ε → Prop) → Prop
  | .ok a, P, _ => P a
  | .ex e, _, E => E e
  | .no, _, _ => False
theorem P_bind {o : Out ε α} {f : α → Out ε β} {P : β → Prop} {E : ε → Prop} : (o.bind f).P P E ↔ o.P (fun a => (f a).P P E) E := by
  cases o <;> exact Iff.rfl
theorem P_mono {o : Out ε α} {P P' : α → Prop} {E E' : ε → Prop} (h : o.P P E) (h1 : ∀ a, P a → P' a) (h2 : ∀ e, E e → E' e) : o.P P' E' := by
  cases o with
  | ok a => exact h1 a h
  | ex e => exact h2 e h
  | no => exact h
end Out

/-! ### flags -/
mutual
noncomputable def D.mapF (g : Fl → Fl) : D → D
  | .tup xs => .tup (D.mapFL g xs)
  | .tuk xs => .tuk (D.mapFL g xs)
  | .clo a vs xs => .clo a vs (D.mapFL g xs)
  | .lst f xs => .lst (g f) (D.mapFL g xs)
  | .dic f xs => .dic (g f) (D.mapFK g xs)
  | .dit f xs => .dit (g f) (D.mapFK g xs)
  | .din f xs => .din (g f) xs
  | .obj f C xs => .obj (g f) C (D.mapFK g xs)
  | .non => .non
  | .bl b => .bl b
  | .int i => .int i
  | .str x => .str x
  | .ty n => .ty n
  | .ref a => .ref a
  | .xc a d fs => .xc a d fs
noncomputable def D.mapFL (g : Fl → Fl) : List D → List D
  | [] => []
  | d :: ds => D.mapF g d :: D.mapFL g ds
noncomputable def D.mapFK (g : Fl → Fl) : List (Kd × D) → List (Kd × D)
  | [] => []
  | (k, d) :: ds => (k, D.mapF g d) :: D.mapFK g ds
end
mutual
noncomputable def D.allF (p : Fl → Bool) : D → Bool
  | .tup xs => D.allFL p xs
  | .tuk xs => D.allFL p xs
  | .clo _ _ xs => D.allFL p xs
  | .lst f xs => p f && D.allFL p xs
  | .dic f xs => p f && D.allFK p xs
  | .dit f xs => p f && D.allFK p xs
  | .din f _ => p f
  | .obj f _ xs => p f && D.allFK p xs
  | _ => true
noncomputable def D.allFL (p : Fl → Bool) : List D → Bool
  | [] => true
  | d :: ds => D.allF p d && D.allFL p ds
noncomputable def D.allFK (p : Fl → Bool) : List (Kd × D) → Bool
  | [] => true
  | (_, d) :: ds => D.allF p d && D.allFK p ds
end
theorem mapFL_eq {g : Fl → Fl} : ∀ xs : List D, D.mapFL g xs = xs.map (D.mapF g)
  | [] => rfl
  | x :: xs => by rw [D.mapFL, mapFL_eq xs]; rfl
theorem allFL_eq {p : Fl → Bool} : ∀ xs : List D, D.allFL p xs = xs.all (D.allF p)
  | [] => rfl
  | x :: xs => by rw [D.allFL, allFL_eq xs]; rfl
noncomputable def plainF : Fl → Bool := fun _ => false
/-- no lists, dicts, instances in it -/
noncomputable abbrev D.plain (d : D) : Bool := d.allF plainF
noncomputable def keepF : Fl → Bool
  | .frz => true
  | _ => false
/-- settled through and through -/
noncomputable abbrev D.kept (d : D) : Bool := d.allF keepF
noncomputable def ownF : Fl → Bool
  | .own => false
  | .new => false
  | _ => true
noncomputable abbrev D.noOwn (d : D) : Bool := d.allF ownF
noncomputable def borF : Fl → Bool
  | .own => true
  | .frz => true
  | _ => false
/-- nothing lent, nothing new -/
noncomputable abbrev D.noBor (d : D) : Bool := d.allF borF
noncomputable def viewF : Fl → Fl
  | .loc => .loc
  | _ => .bor
/-- as it is lent -/
noncomputable abbrev D.view (d : D) : D := d.mapF viewF
noncomputable def fzF : Fl → Fl
  | .own => .frz
  | .new => .frz
  | f => f
/-- as it is settled -/
noncomputable abbrev D.fz (d : D) : D := d.mapF fzF
mutual
theorem allF_mono {p q : Fl → Bool} (h : ∀ f, p f = true → q f = true) : ∀ d : D, d.allF p = true → d.allF q = true
  | .tup xs, e => by rw [D.allF] at e ⊢; exact allFL_mono h xs e
  | .tuk xs, e => by rw [D.allF] at e ⊢; exact allFL_mono h xs e
  | .clo _ _ xs, e => by rw [D.allF] at e ⊢; exact allFL_mono h xs e
  | .lst f xs, e => by
    rw [D.allF, Bool.and_eq_true] at e ⊢
    exact ⟨h f e.1, allFL_mono h xs e.2⟩
  | .dic f xs, e => by
    rw [D.allF, Bool.and_eq_true] at e ⊢
    exact ⟨h f e.1, allFK_mono h xs e.2⟩
  | .dit f xs, e => by
    rw [D.allF, Bool.and_eq_true] at e ⊢
    exact ⟨h f e.1, allFK_mono h xs e.2⟩
  | .din f xs, e => by
    rw [D.allF] at e ⊢
    exact h f e
  | .obj f C xs, e => by
    rw [D.allF, Bool.and_eq_true] at e ⊢
    exact ⟨h f e.1, allFK_mono h xs e.2⟩
  | .non, _ => rfl
  | .bl _, _ => rfl
  | .int _, _ => rfl
  | .str _, _ => rfl
  | .ty _, _ => rfl
  | .ref _, _ => rfl
  | .xc _ _ _, _ => rfl
theorem allFL_mono {p q : Fl → Bool} (h : ∀ f, p f = true → q f = true) : ∀ ds : List D, D.allFL p ds = true → D.allFL q ds = true
  | [], _ => rfl
  | d :: ds, e => by
    rw [D.allFL, Bool.and_eq_true] at e ⊢
    exact ⟨allF_mono h d e.1, allFL_mono h ds e.2⟩
theorem allFK_mono {p q : Fl → Bool} (h : ∀ f, p f = true → q f = true) : ∀ ds : List (Kd × D), D.allFK p ds = true → D.allFK q ds = true
  | [], _ => rfl
  | (k, d) :: ds, e => by
    rw [D.allFK, Bool.and_eq_true] at e ⊢
    exact ⟨allF_mono h d e.1, allFK_mono h ds e.2⟩
end
mutual
theorem mapF_plain {g : Fl → Fl} : ∀ {d : D}, d.plain = true → d.mapF g = d
  | .tup xs, e => by rw [D.mapF, mapFL_plain (show D.allFL plainF xs = true by simpa [D.plain, D.allF] using e)]
  | .tuk xs, e => by rw [D.mapF, mapFL_plain (show D.allFL plainF xs = true by simpa [D.plain, D.allF] using e)]
  | .clo _ _ xs, e => by rw [D.mapF, mapFL_plain (show D.allFL plainF xs = true by simpa [D.plain, D.allF] using e)]
  | .lst f xs, e => by simp [D.plain, D.allF, plainF] at e
  | .dic f xs, e => by simp [D.plain, D.allF, plainF] at e
  | .dit f xs, e => by simp [D.plain, D.allF, plainF] at e
  | .din f xs, e => by simp [D.plain, D.allF, plainF] at e
  | .obj f C xs, e => by simp [D.plain, D.allF, plainF] at e
  | .non, _ => rfl
  | .bl _, _ => rfl
  | .int _, _ => rfl
  | .str _, _ => rfl
  | .ty _, _ => rfl
  | .ref _, _ => rfl
  | .xc _ _ _, _ => rfl
theorem mapFL_plain {g : Fl → Fl} : ∀ {ds : List D}, D.allFL plainF ds = true → D.mapFL g ds = ds
  | [], _ => rfl
  | d :: ds, e => by
    rw [D.allFL, Bool.and_eq_true] at e
    rw [D.mapFL, mapF_plain e.1, mapFL_plain e.2]
end

/-! ### trees in memory -/
noncomputable def Nd (G B H : Hp) : Fl → Addr → HO → Prop
  | .own, p, o => H p = some o
  | .new, p, o => H p = some o
  | .frz, p, o => G p = some o
  | .bor, p, o => B p = some o ∨ G p = some o
  | .loc, _, _ => False
/-- .. or it is locked (a dict that is walked) -/
noncomputable def NdR (G B H : Hp) (f : Fl) (p : Addr) (o : HO) : Prop := Nd G B H f p o ∨ (f ≠ .new ∧ ∃ ob, Nd G B H f p (.frz ob o))
noncomputable def Fl.ad : Fl → Addr → List Addr
  | .own, p => [p]
  | .new, p => [p]
  | _, _ => []
noncomputable def kK (e : Key × V) : Kd × V := (.k e.1, e.2)
noncomputable def kT (e : List Key × V) : Kd × V := (.t e.1, e.2)
noncomputable def kF (e : Str × V) : Kd × V := (kS e.1, e.2)
/-- a number, a text, a truth, None -/
noncomputable def atomV : D → Option V
  | .int i => some (.int i)
  | .str x => some (.str x)
  | .bl b => some (.bl b)
  | .non => some .non
  | _ => none
/-- an error's fields in its dict -/
noncomputable def FldsOf (vs : List (Str × V)) (fs : List (Kd × D)) : Prop := vs.map (fun e => (kS e.1, some e.2)) = fs.map fun e => (e.1, atomV e.2)
/-- a tuple that was laid, or the text's own nought, (0, 1) -/
noncomputable def TupO (K : PySem.W.Frag) (G : Hp) (p : Addr) (vs : List V) : Prop := G p = some (.tup vs) ∨ (vs = [.int 0, .int 1] ∧ SqT K G p vs)
noncomputable def nk (k : Nk) : NestedKey := .tup [.num k.1, .tup (k.2.map .text)]
/-- the dict at p: its keys, where their tuples stand, its values -/
noncomputable def dNp (w : World) (p : Addr) (xs : List (Nk × Addr × Int)) (h : Heap) : Prop := xs.length ≤ sizeLine ∧ (p == sysModules) = false ∧ ∃ (ys : List (NestedKey × Addr × Value)) (o : Obj) (es : Array DictEntry) (ep : Nat), Paired (fun (x : Nk × Addr × Int) y => y.1 = nk x.1 ∧ y.2.1 = x.2.1 ∧ RelV (.int x.2.2) y.2.2) xs ys ∧
  h.get? p = some o ∧ o.ExactDict ∧ o.data = .dict es ep ∧ es.toList = ys.map (fun y => ⟨y.1.hash w, .ref y.2.1, y.2.2⟩) ∧ (ys.map (·.1)).Nodup
noncomputable abbrev dN (w : World) (p : Addr) (xs : List (Nk × Addr × Int)) : HO := .ext (dNp w p xs)
/-- a dict is no code object -/
theorem dN_pl {w : World} {p : Addr} {xs : List (Nk × Addr × Int)} : PlO (dN w p xs) := fun c q e => by
  have e2 : dNp w p xs = fun h => ∃ (oc : Obj) (vs : Array Value) (t : Tok), h.get? c = some oc ∧ oc.data = .fields vs ∧ vs[1]? = some (.str q t) := by
    unfold LamX.CodeO at e
    exact HO.ext.inj e
  have at' : ∀ (a : Nat) (o : Obj), (⟨(List.replicate (c + 1) ({ cls := .none, data := .fields #[.none, .str q 0] } : Obj)).toArray, {}⟩ : Heap).get? a = some o → o = { cls := .none, data := .fields #[.none, .str q 0] } := fun a o g => by
    have g1 := (Heap.get?_some_iff.mp g).1
    have g2 : (List.replicate (c + 1) ({ cls := .none, data := .fields #[.none, .str q 0] } : Obj))[a]? = some o := by rw [← List.getElem?_toArray]; exact g1
    exact List.eq_of_mem_replicate (List.mem_of_getElem? g2)
  have z : dNp w p xs ⟨(List.replicate (c + 1) ({ cls := .none, data := .fields #[.none, .str q 0] } : Obj)).toArray, {}⟩ := by
    rw [e2]
    refine ⟨{ cls := .none, data := .fields #[.none, .str q 0] }, _, 0, Heap.get?_some_iff.mpr ⟨?_, rfl⟩, rfl, rfl⟩
    simp
  obtain ⟨_, _, ys, o, es, ep, _, g, ex, d, _⟩ := z
  rw [at' p o g] at d
  cases d
/-- where a key's tuples stand -/
noncomputable def NkAt (G : Hp) (k : Nk) (b : Addr) : Prop := ∃ q, G b = some (.tup [.int k.1, .ref q]) ∧ G q = some (.tup (k.2.map V.str))
theorem NkAt.mono {G G' : Hp} (s : Same G G') {k : Nk} {b : Addr} (h : NkAt G k b) : NkAt G' k b := let ⟨q, h1, h2⟩ := h; ⟨q, s _ _ h1, s _ _ h2⟩
mutual
/-- the value v is the tree d: settled nodes stand in G, lent ones in B, owned and new ones in H, at the addresses told -/
inductive Dat [LamT] (K : PySem.W.Frag) (G B H : Hp) : List Addr → V → D → Prop
  | non : Dat K G B H [] .non .non
  | bl (b : Bool) : Dat K G B H [] (.bl b) (.bl b)
  | int (i : Int) : Dat K G B H [] (.int i) (.int i)
  | str (x : Str) : Dat K G B H [] (.str x) (.str x)
  | ty (n : String) : Dat K G B H [] (.ty n) (.ty n)
  | ref (a : Addr) : Dat K G B H [] (.ref a) (.ref a)
  | xc {a d : Addr} {vs : List (Str × V)} {fs : List (Kd × D)} (h : G d = some (.xd vs)) (hf : FldsOf vs fs) : Dat K G B H [] (.ref a) (.xc a d fs)
  | tup {S : List Addr} {p : Addr} {vs : List V} {ds : List D} (h : TupO K G p vs) (hs : Dats K G B H S vs ds) : Dat K G B H S (.ref p) (.tup ds)
  | tuk {S : List Addr} {p : Addr} {vs : List V} {ds : List D} (h : SqT K G p vs) (hs : Dats K G B H S vs ds) : Dat K G B H S (.ref p) (.tuk ds)
  | clo {S : List Addr} {p : Addr} {vs : List V} {ds : List D} (hs : Dats K G B H S vs ds) : Dat K G B H S (.ref p) (.clo p vs ds)
  | lst {S : List Addr} {f : Fl} {p : Addr} {vs : List V} {ds : List D} (h : Nd G B H f p (.lst vs)) (hs : Dats K G B H S vs ds) : Dat K G B H (f.ad p ++ S) (.ref p) (.lst f ds)
  | lok {S : List Addr} {p : Addr} {vs : List V} {ds : List D} (h : SqL K B p vs ∨ SqL K G p vs) (hs : Dats K G B H S vs ds) : Dat K G B H S (.ref p) (.lst .loc ds)
  | dic {S : List Addr} {f : Fl} {p : Addr} {vs : List (Key × V)} {ds : List (Kd × D)} (h : NdR G B H f p (.dK vs)) (hs : DatM K G B H S (vs.map kK) ds) : Dat K G B H (f.ad p ++ S) (.ref p) (.dic f ds)
  | dit {S : List Addr} {f : Fl} {p : Addr} {vs : List (List Key × V)} {ds : List (Kd × D)} (h : NdR G B H f p (.dT vs)) (hs : DatM K G B H S (vs.map kT) ds) : Dat K G B H (f.ad p ++ S) (.ref p) (.dit f ds)
  | din {f : Fl} {p : Addr} {w : World} {xs : List (Nk × Addr × Int)} {kvs : List (Nk × Int)} (hw : LamT.w = some w) (h : Nd G B H f p (dN w p xs)) (hk : ∀ x ∈ xs, NkAt G x.1 x.2.1) (e : kvs = xs.map fun x => (x.1, x.2.2)) : Dat K G B H (f.ad p ++ []) (.ref p) (.din f kvs)
  | obj {S : List Addr} {f : Fl} {p C dx : Addr} {vs : List (Str × V)} {ds : List (Kd × D)} (h : Nd G B H f p (.ins C dx vs)) (hs : DatM K G B H S (vs.map kF) ds) : Dat K G B H (f.ad p ++ S) (.ref p) (.obj f C ds)
inductive Dats [LamT] (K : PySem.W.Frag) (G B H : Hp) : List Addr → List V → List D → Prop
  | nil : Dats K G B H [] [] []
  | cons {S T : List Addr} {v : V} {d : D} {vs : List V} {ds : List D} (n : d.old) (h : Dat K G B H S v d) (t : Dats K G B H T vs ds) : Dats K G B H (S ++ T) (v :: vs) (d :: ds)
inductive DatM [LamT] (K : PySem.W.Frag) (G B H : Hp) : List Addr → List (Kd × V) → List (Kd × D) → Prop
  | nil : DatM K G B H [] [] []
  | cons {S T : List Addr} {k : Kd} {v : V} {d : D} {vs : List (Kd × V)} {ds : List (Kd × D)} (n : d.old) (h : Dat K G B H S v d) (t : DatM K G B H T vs ds) : DatM K G B H (S ++ T) ((k, v) :: vs) ((k, d) :: ds)
end
variable [LamT]
theorem Same.rd {G G' : Hp} (s : Same G G') {a : Addr} {u : HO} (h : Rd G a u) : Rd G' a u := by
  rcases h with h | ⟨o, h⟩
  · exact .inl (s _ _ h)
  · exact .inr ⟨o, s _ _ h⟩
theorem Same.sqT {K : PySem.W.Frag} {G G' : Hp} (s : Same G G') {a : Addr} {xs : List V} (h : SqT K G a xs) : SqT K G' a xs := by
  rcases h with h | h
  · exact .inl (Same.rd s h)
  · exact .inr h
theorem SmN.rd {G H : Hp} (s : SmN G H) {a : Addr} {u : HO} (h : Rd G a u) (n : NT u := by first | assumption | trivial) : Rd H a u := by
  rcases h with h | ⟨o, h⟩
  · exact .inl (s _ _ h n)
  · exact .inr ⟨o, s _ _ h trivial⟩
theorem SmN.sqT {K : PySem.W.Frag} {G H : Hp} (s : SmN G H) {a : Addr} {xs : List V} (h : SqT K G a xs) : SqT K H a xs := h.imp (fun h => s.rd h) id
theorem SmN.seq {K : PySem.W.Frag} {G H : Hp} (s : SmN G H) {a : Addr} {xs : List V} (h : SqL K G a xs) : SqL K H a xs := h.imp (fun h => s.rd h) id
theorem Sub.sqT {K : PySem.W.Frag} {G H : Hp} (s : Sub G H) {a : Addr} {xs : List V} (h : SqT K G a xs) : SqT K H a xs := s.n.sqT h
theorem Sub.seq {K : PySem.W.Frag} {G H : Hp} (s : Sub G H) {a : Addr} {xs : List V} (h : SqL K G a xs) : SqL K H a xs := s.n.seq h
theorem TupO.mono {K : PySem.W.Frag} {G G' : Hp} (s : Same G G') {a : Addr} {xs : List V} (h : TupO K G a xs) : TupO K G' a xs := h.imp (s _ _) fun ⟨e, h⟩ => ⟨e, Same.sqT s h⟩
theorem TupO.sq {K : PySem.W.Frag} {G : Hp} {a : Addr} {xs : List V} (h : TupO K G a xs) : SqT K G a xs := h.elim SqT.of fun h => h.2
/-- what stands at the addresses S is kept -/
noncomputable def On (S : List Addr) (H H' : Hp) : Prop := ∀ a ∈ S, ∀ o, H a = some o → NT o → H' a = some o
theorem On.of {S : List Addr} {H H' : Hp} (s : SmN H H') : On S H H' := fun a _ o e n => s.k a o e n
theorem On.same {S : List Addr} {H : Hp} : On S H H := fun a _ o e n => e
theorem On.l {S T : List Addr} {H H' : Hp} (h : On (S ++ T) H H') : On S H H' := fun a m => h a (List.mem_append_left _ m)
theorem On.r {S T : List Addr} {H H' : Hp} (h : On (S ++ T) H H') : On T H H' := fun a m => h a (List.mem_append_right _ m)
theorem Nd.mono {G B H G' B' H' : Hp} (g : Same G G') (b : Same B B') {f : Fl} {p : Addr} {o : HO} {S : List Addr} (h : On (f.ad p ++ S) H H') (hn : NT o) (n : Nd G B H f p o) : Nd G' B' H' f p o := by
  cases f with
  | own => exact h p (by simp [Fl.ad]) o n hn
  | new => exact h p (by simp [Fl.ad]) o n hn
  | frz => exact g p o n
  | bor => rcases n with n | n
           · exact .inl (b p o n)
           · exact .inr (g p o n)
  | loc => exact n
theorem NdR.mono {G B H G' B' H' : Hp} (g : Same G G') (b : Same B B') {f : Fl} {p : Addr} {o : HO} {S : List Addr} (h : On (f.ad p ++ S) H H') (hn : NT o) (n : NdR G B H f p o) : NdR G' B' H' f p o := by
  rcases n with n | ⟨nn, ob, n⟩
  · exact .inl (n.mono g b h hn)
  · exact .inr ⟨nn, ob, n.mono g b h trivial⟩
mutual
theorem Dat.mono {K : PySem.W.Frag} {G B H G' B' H' : Hp} (g : Same G G') (b : Same B B') : ∀ {S : List Addr} {v : V} {d : D}, On S H H' → Dat K G B H S v d → Dat K G' B' H' S v d
  | _, _, _, _, .non => .non
  | _, _, _, _, .bl b => .bl b
  | _, _, _, _, .int i => .int i
  | _, _, _, _, .str x => .str x
  | _, _, _, _, .ty n => .ty n
  | _, _, _, _, .ref a => .ref a
  | _, _, _, _, .xc h hf => .xc (g _ _ h) hf
  | _, _, _, o, .tup h hs => .tup (h.mono g) (Dats.mono g b o hs)
  | _, _, _, o, .tuk h hs => .tuk (Same.sqT g h) (Dats.mono g b o hs)
  | _, _, _, o, .clo hs => .clo (Dats.mono g b o hs)
  | _, _, _, o, .lst h hs => .lst (Nd.mono g b o trivial h) (Dats.mono g b o.r hs)
  | _, _, _, o, .lok h hs => .lok (h.imp b.seq g.seq) (Dats.mono g b o hs)
  | _, _, _, o, .dic h hs => .dic (NdR.mono g b o trivial h) (DatM.mono g b o.r hs)
  | _, _, _, o, .dit h hs => .dit (NdR.mono g b o trivial h) (DatM.mono g b o.r hs)
  | _, _, _, o, .din hw h hk e => .din hw (Nd.mono g b o trivial h) (fun x m => (hk x m).mono g) e
  | _, _, _, o, .obj h hs => .obj (Nd.mono g b o trivial h) (DatM.mono g b o.r hs)
theorem Dats.mono {K : PySem.W.Frag} {G B H G' B' H' : Hp} (g : Same G G') (b : Same B B') : ∀ {S : List Addr} {v : List V} {d : List D}, On S H H' → Dats K G B H S v d → Dats K G' B' H' S v d
  | _, _, _, _, .nil => .nil
  | _, _, _, o, .cons n h t => .cons n (Dat.mono g b o.l h) (Dats.mono g b o.r t)
theorem DatM.mono {K : PySem.W.Frag} {G B H G' B' H' : Hp} (g : Same G G') (b : Same B B') : ∀ {S : List Addr} {v : List (Kd × V)} {d : List (Kd × D)}, On S H H' → DatM K G B H S v d → DatM K G' B' H' S v d
  | _, _, _, _, .nil => .nil
  | _, _, _, o, .cons n h t => .cons n (Dat.mono g b o.l h) (DatM.mono g b o.r t)
end
theorem Dats.length {K : PySem.W.Frag} {G B H : Hp} : ∀ {S : List Addr} {vs : List V} {ds : List D}, Dats K G B H S vs ds → vs.length = ds.length
  | _, _, _, .nil => rfl
  | _, _, _, .cons _ _ t => congrArg (· + 1) (Dats.length t)
theorem DatM.length {K : PySem.W.Frag} {G B H : Hp} : ∀ {S : List Addr} {vs : List (Kd × V)} {ds : List (Kd × D)}, DatM K G B H S vs ds → vs.length = ds.length
  | _, _, _, .nil => rfl
  | _, _, _, .cons _ _ t => congrArg (· + 1) (DatM.length t)
theorem ad_nil {f : Fl} {p : Addr} (h : ownF f = true) : f.ad p = [] := by cases f <;> first | rfl | cases h
mutual
/-- what owns nothing leans on no address -/
theorem Dat.noS {K : PySem.W.Frag} {G B H : Hp} : ∀ {S : List Addr} {v : V} {d : D}, Dat K G B H S v d → d.noOwn = true → S = []
  | _, _, _, .non, _ => rfl
  | _, _, _, .bl b, _ => rfl
  | _, _, _, .int i, _ => rfl
  | _, _, _, .str x, _ => rfl
  | _, _, _, .ty n, _ => rfl
  | _, _, _, .ref a, _ => rfl
  | _, _, _, .xc h hf, _ => rfl
  | _, _, _, .tup h hs, e => Dats.noS hs (by simpa [D.noOwn, D.allF] using e)
  | _, _, _, .tuk h hs, e => Dats.noS hs (by simpa [D.noOwn, D.allF] using e)
  | _, _, _, .clo hs, e => Dats.noS hs (by simpa [D.noOwn, D.allF] using e)
  | _, _, _, .lst h hs, e => by
    simp only [D.noOwn, D.allF, Bool.and_eq_true] at e
    rw [ad_nil e.1, Dats.noS hs e.2] <;> rfl
  | _, _, _, .lok h hs, e => by
    simp only [D.noOwn, D.allF, Bool.and_eq_true] at e
    exact Dats.noS hs e.2
  | _, _, _, .dic h hs, e => by
    simp only [D.noOwn, D.allF, Bool.and_eq_true] at e
    rw [ad_nil e.1, DatM.noS hs e.2] <;> rfl
  | _, _, _, .dit h hs, e => by
    simp only [D.noOwn, D.allF, Bool.and_eq_true] at e
    rw [ad_nil e.1, DatM.noS hs e.2] <;> rfl
  | _, _, _, .din hw h hk eq, e => by
    simp only [D.noOwn, D.allF] at e
    rw [ad_nil e] <;> rfl
  | _, _, _, .obj h hs, e => by
    simp only [D.noOwn, D.allF, Bool.and_eq_true] at e
    rw [ad_nil e.1, DatM.noS hs e.2] <;> rfl
theorem Dats.noS {K : PySem.W.Frag} {G B H : Hp} : ∀ {S : List Addr} {v : List V} {d : List D}, Dats K G B H S v d → D.allFL ownF d = true → S = []
  | _, _, _, .nil, _ => rfl
  | _, _, _, .cons _ h t, e => by
    rw [D.allFL, Bool.and_eq_true] at e
    rw [Dat.noS h e.1, Dats.noS t e.2] <;> rfl
theorem DatM.noS {K : PySem.W.Frag} {G B H : Hp} : ∀ {S : List Addr} {v : List (Kd × V)} {d : List (Kd × D)}, DatM K G B H S v d → D.allFK ownF d = true → S = []
  | _, _, _, .nil, _ => rfl
  | _, _, _, .cons _ h t, e => by
    rw [D.allFK, Bool.and_eq_true] at e
    rw [Dat.noS h e.1, DatM.noS t e.2] <;> rfl
end
mutual
/-- what owns nothing does not hang on what is owned -/
theorem Dat.anyH {K : PySem.W.Frag} {G B H H' : Hp} {S : List Addr} {v : V} {d : D} (h : Dat K G B H S v d) (e : d.noOwn = true) : Dat K G B H' [] v d := by
  have s := h.noS e
  subst s
  exact h.mono (fun _ _ q => q) (fun _ _ q => q) fun a m => by cases m
end
theorem Nd.here {G B H : Hp} {f : Fl} {p : Addr} {o : HO} (g : Sub G H) (b : SmN B H) (n : Nd G B H f p o) (hn : NT o := by first | assumption | trivial) : H p = some o := by
  cases f with
  | own => exact n
  | new => exact n
  | frz => exact g.n.k p o n hn
  | bor => rcases n with n | n
           · exact b p o n hn
           · exact g.n.k p o n hn
  | loc => exact n.elim
/-- what is known at a place is what stands there -/
theorem Nd.eq {G B H : Hp} {f : Fl} {p : Addr} {o u : HO} (g : SmN G H) (b : SmN B H) (h : H p = some u) (nu : NT u) (n : Nd G B H f p o) : o = u := by
  cases f with
  | own => exact Option.some.inj (n.symm.trans h)
  | new => exact Option.some.inj (n.symm.trans h)
  | frz => exact g.b h nu n
  | bor => rcases n with n | n
           · exact b.b h nu n
           · exact g.b h nu n
  | loc => exact n.elim
theorem root_mapF {g : Fl → Fl} (gn : ∀ f, g f ≠ .new) (d : D) : (d.mapF g).old := by
  cases d with
  | lst f _ => simpa [D.root, D.mapF] using gn f
  | dic f _ => simpa [D.root, D.mapF] using gn f
  | dit f _ => simpa [D.root, D.mapF] using gn f
  | din f _ => simpa [D.root, D.mapF] using gn f
  | obj f _ _ => simpa [D.root, D.mapF] using gn f
  | _ => simp [D.root, D.mapF]
theorem NdR.here {G B H : Hp} {f : Fl} {p : Addr} {o : HO} (g : Sub G H) (b : SmN B H) (n : NdR G B H f p o) (hn : NT o := by first | assumption | trivial) : Rd H p o := by
  rcases n with n | ⟨nn, ob, n⟩
  · exact .inl (n.here g b)
  · exact .inr ⟨ob, n.here g b⟩
/-- a change of flags, the nodes being found -/
noncomputable def Turn (G B H G' B' H' : Hp) (S : List Addr) (g : Fl → Fl) : Prop := ∀ (f : Fl) (p : Addr) (o : HO), NT o → Nd G B H f p o → (∀ a ∈ f.ad p, a ∈ S) → Nd G' B' H' (g f) p o ∧ (g f).ad p = []
theorem Turn.l {G B H G' B' H' : Hp} {S T : List Addr} {g : Fl → Fl} (h : Turn G B H G' B' H' (S ++ T) g) : Turn G B H G' B' H' S g := fun f p o t n m => h f p o t n fun a q => List.mem_append_left _ (m a q)
theorem Turn.r {G B H G' B' H' : Hp} {S T : List Addr} {g : Fl → Fl} (h : Turn G B H G' B' H' (S ++ T) g) : Turn G B H G' B' H' T g := fun f p o t n m => h f p o t n fun a q => List.mem_append_right _ (m a q)
theorem Turn.rd {G B H G' B' H' : Hp} {S : List Addr} {g : Fl → Fl} (gn : ∀ f, g f ≠ .new) (t : Turn G B H G' B' H' S g) {f : Fl} {p : Addr} {o : HO} (hn : NT o) (n : NdR G B H f p o) (m : ∀ a ∈ f.ad p, a ∈ S) : NdR G' B' H' (g f) p o ∧ (g f).ad p = [] := by
  rcases n with n | ⟨nn, ob, n⟩
  · exact ⟨.inl (t _ _ _ hn n m).1, (t _ _ _ hn n m).2⟩
  · exact ⟨.inr ⟨gn f, ob, (t _ _ _ (by trivial) n m).1⟩, (t _ _ _ (by trivial) n m).2⟩
mutual
theorem Dat.turn {K : PySem.W.Frag} {G B H G' B' H' : Hp} {g : Fl → Fl} (sg : Same G G') (lk : ∀ p vs, SqL K B p vs ∨ SqL K G p vs → SqL K B' p vs ∨ SqL K G' p vs) (gl : g .loc = .loc) (gn : ∀ f, g f ≠ .new) : ∀ {S : List Addr} {v : V} {d : D}, Turn G B H G' B' H' S g → Dat K G B H S v d → Dat K G' B' H' [] v (d.mapF g)
  | _, _, _, _, .non => .non
  | _, _, _, _, .bl b => .bl b
  | _, _, _, _, .int i => .int i
  | _, _, _, _, .str x => .str x
  | _, _, _, _, .ty n => .ty n
  | _, _, _, _, .ref a => .ref a
  | _, _, _, _, .xc h hf => .xc (sg _ _ h) hf
  | _, _, _, t, .tup h hs => .tup (h.mono sg) (Dats.turn sg lk gl gn t hs)
  | _, _, _, t, .tuk h hs => .tuk (Same.sqT sg h) (Dats.turn sg lk gl gn t hs)
  | _, _, _, t, .clo hs => .clo (Dats.turn sg lk gl gn t hs)
  | _, _, _, t, .lst h hs => by
    obtain ⟨n, e⟩ := t _ _ _ (by trivial) h fun a m => List.mem_append_left _ m
    have := Dat.lst n (Dats.turn sg lk gl gn t.r hs)
    rw [e] at this; exact this
  | _, _, _, t, .lok h hs => by
    have := Dat.lok (lk _ _ h) (Dats.turn sg lk gl gn t hs)
    rw [D.mapF, gl]; exact this
  | _, _, _, t, .dic h hs => by
    obtain ⟨n, e⟩ := t.rd gn (by trivial) h fun a m => List.mem_append_left _ m
    have := Dat.dic n (DatM.turn sg lk gl gn t.r hs)
    rw [e] at this; exact this
  | _, _, _, t, .dit h hs => by
    obtain ⟨n, e⟩ := t.rd gn (by trivial) h fun a m => List.mem_append_left _ m
    have := Dat.dit n (DatM.turn sg lk gl gn t.r hs)
    rw [e] at this; exact this
  | _, _, _, t, .din hw h hk eq => by
    obtain ⟨n, e⟩ := t _ _ _ (by trivial) h fun a m => List.mem_append_left _ m
    have := Dat.din (K := K) hw n (fun x m => (hk x m).mono sg) eq
    rw [e] at this; exact this
  | _, _, _, t, .obj h hs => by
    obtain ⟨n, e⟩ := t _ _ _ (by trivial) h fun a m => List.mem_append_left _ m
    have := Dat.obj n (DatM.turn sg lk gl gn t.r hs)
    rw [e] at this; exact this
theorem Dats.turn {K : PySem.W.Frag} {G B H G' B' H' : Hp} {g : Fl → Fl} (sg : Same G G') (lk : ∀ p vs, SqL K B p vs ∨ SqL K G p vs → SqL K B' p vs ∨ SqL K G' p vs) (gl : g .loc = .loc) (gn : ∀ f, g f ≠ .new) : ∀ {S : List Addr} {v : List V} {d : List D}, Turn G B H G' B' H' S g → Dats K G B H S v d → Dats K G' B' H' [] v (D.mapFL g d)
  | _, _, _, _, .nil => .nil
  | _, _, _, t, .cons n h r => by
    have := Dats.cons (root_mapF gn _) (Dat.turn sg lk gl gn t.l h) (Dats.turn sg lk gl gn t.r r)
    exact this
theorem DatM.turn {K : PySem.W.Frag} {G B H G' B' H' : Hp} {g : Fl → Fl} (sg : Same G G') (lk : ∀ p vs, SqL K B p vs ∨ SqL K G p vs → SqL K B' p vs ∨ SqL K G' p vs) (gl : g .loc = .loc) (gn : ∀ f, g f ≠ .new) : ∀ {S : List Addr} {v : List (Kd × V)} {d : List (Kd × D)}, Turn G B H G' B' H' S g → DatM K G B H S v d → DatM K G' B' H' [] v (D.mapFK g d)
  | _, _, _, _, .nil => .nil
  | _, _, _, t, .cons (k := k) n h r => by
    have := DatM.cons (k := k) (root_mapF gn _) (Dat.turn sg lk gl gn t.l h) (DatM.turn sg lk gl gn t.r r)
    exact this
end
end VL

/-! VLb: quiet expressions: they read, and lay new things; no place is changed. -/
namespace VL
open PySem PySem.Spec PyProof.Rows L2
variable [LamT]

theorem same_upd {G : Hp} {p : Addr} {o : HO} (h : G p = none) : Same G (upd G p o) := fun b u e => by rw [upd_ne (ne_of_none e h)]; exact e
theorem Same.free {G H : Hp} (s : Same G H) {p : Addr} (h : H p = none) : G p = none := by
  cases e : G p with
  | none => rfl
  | some o => rw [s p o e] at h; cases h
/-- what stood stays, but tables; what is settled anew is new -/
structure Ext (G H G' H' : Hp) : Prop where
  h : SmN H H'
  g : Same G G'
  new : ∀ a o, G' a = some o → G a = some o ∨ H a = none
  gh : Sub G' H'
theorem Sub.on {G H H' : Hp} (s : Sub G H) (h : Same H H') : Sub G H' := ⟨s.n.trans (.of h), s.t.ext h⟩
theorem tabs_of {T : List (Addr × Str)} {H H' : Hp} (t : LamX.Tabs T H) (h : ∀ b o, H b = some o → ¬ PlO o → H' b = some o) : LamX.Tabs T H' := fun p hp => by
  obtain ⟨ps, h1, h2, h3⟩ := t p hp
  refine ⟨ps, h _ _ h1 id, h2, fun pos cv hc => ?_⟩
  obtain ⟨c, e1, e2⟩ := h3 pos cv hc
  exact ⟨c, e1, h _ _ e2 fun z => z _ _ rfl⟩
theorem tabs_put {T : List (Addr × Str)} {H : Hp} {a : Addr} {o o' : HO} (t : LamX.Tabs T H) (h : H a = some o) (hp : PlO o := by trivial) : LamX.Tabs T (upd H a o') := tabs_of t fun b u e n => by
  by_cases hb : b = a
  · subst hb; rw [h] at e; cases e; exact absurd hp n
  · rw [upd_ne hb]; exact e
/-- one place outside is changed -/
theorem SmN.put {A H : Hp} {a : Addr} {o : HO} (s : SmN A H) (h : A a = none) : SmN A (upd H a o) := ⟨fun b u e n => by rw [upd_ne (ne_of_none e h)]; exact s b u e n, fun b ps e => by rw [upd_ne (ne_of_none e h)]; exact s.y b ps e⟩
theorem Sub.put {G H : Hp} {a : Addr} {o o' : HO} (s : Sub G H) (h : G a = none) (ha : H a = some o) (hp : PlO o := by trivial) : Sub G (upd H a o') := ⟨s.n.put h, tabs_put s.t ha hp⟩
theorem Ext.refl {G H : Hp} (gh : Sub G H) : Ext G H G H := ⟨.refl, fun _ _ e => e, fun _ _ e => .inl e, gh⟩
theorem Ext.trans {G H G1 H1 G2 H2 : Hp} (a : Ext G H G1 H1) (b : Ext G1 H1 G2 H2) : Ext G H G2 H2 :=
  ⟨a.h.trans b.h, fun p o e => b.g p o (a.g p o e), fun p o e => by
    rcases b.new p o e with e | e
    · exact a.new p o e
    · exact .inr (a.h.z _ e), b.gh⟩
theorem Ext.lay {G H : Hp} {p : Addr} {o : HO} (gh : Sub G H) (hp : H p = none) : Ext G H G (upd H p o) :=
  ⟨.of (same_upd hp), fun _ _ e => e, fun _ _ e => .inl e, gh.on (same_upd hp)⟩
theorem Ext.layG {G H : Hp} {p : Addr} {o : HO} (gh : Sub G H) (hp : H p = none) : Ext G H (upd G p o) (upd H p o) := by
  have gp := gh.n.z _ hp
  refine ⟨.of (same_upd hp), same_upd gp, fun b u e => ?_, ⟨⟨fun b u e n => ?_, fun b ps e => ?_⟩, gh.t.ext (same_upd hp)⟩⟩
  · by_cases hb : b = p
    · subst hb; exact .inr hp
    · rw [upd_ne hb] at e; exact .inl e
  · by_cases hb : b = p
    · subst hb; rw [upd_same] at e ⊢; exact e
    · rw [upd_ne hb] at e ⊢; exact gh b u e n
  · by_cases hb : b = p
    · subst hb; rw [upd_same] at e ⊢; exact ⟨ps, e⟩
    · rw [upd_ne hb] at e ⊢; exact gh.n.y b ps e

noncomputable abbrev Dt (K : PySem.W.Frag) (G B H : Hp) (v : V) (d : D) : Prop := ∃ S, Dat K G B H S v d
noncomputable abbrev Dts (K : PySem.W.Frag) (G B H : Hp) (v : List V) (d : List D) : Prop := ∃ S, Dats K G B H S v d
noncomputable abbrev Dtm (K : PySem.W.Frag) (G B H : Hp) (v : List (Kd × V)) (d : List (Kd × D)) : Prop := ∃ S, DatM K G B H S v d
theorem Dt.ext {K : PySem.W.Frag} {G B H G' H' : Hp} {v : V} {d : D} (e : Ext G H G' H') (h : Dt K G B H v d) : Dt K G' B H' v d := let ⟨S, h⟩ := h; ⟨S, h.mono e.g (fun _ _ q => q) (On.of e.h)⟩
theorem Dts.ext {K : PySem.W.Frag} {G B H G' H' : Hp} {v : List V} {d : List D} (e : Ext G H G' H') (h : Dts K G B H v d) : Dts K G' B H' v d := let ⟨S, h⟩ := h; ⟨S, h.mono e.g (fun _ _ q => q) (On.of e.h)⟩
theorem Dtm.ext {K : PySem.W.Frag} {G B H G' H' : Hp} {v : List (Kd × V)} {d : List (Kd × D)} (e : Ext G H G' H') (h : Dtm K G B H v d) : Dtm K G' B H' v d := let ⟨S, h⟩ := h; ⟨S, h.mono e.g (fun _ _ q => q) (On.of e.h)⟩
theorem Dts.nil {K : PySem.W.Frag} {G B H : Hp} : Dts K G B H [] [] := ⟨_, .nil⟩
theorem Dts.cons {K : PySem.W.Frag} {G B H : Hp} {v : V} {d : D} {vs : List V} {ds : List D} (n : d.old) (h : Dt K G B H v d) (t : Dts K G B H vs ds) : Dts K G B H (v :: vs) (d :: ds) := let ⟨_, h⟩ := h; let ⟨_, t⟩ := t; ⟨_, .cons n h t⟩
theorem Dts.uncons {K : PySem.W.Frag} {G B H : Hp} {v : V} {d : D} {vs : List V} {ds : List D} (h : Dts K G B H (v :: vs) (d :: ds)) : d.old ∧ Dt K G B H v d ∧ Dts K G B H vs ds := by
  obtain ⟨S, h⟩ := h
  cases h with
  | cons n h t => exact ⟨n, ⟨_, h⟩, _, t⟩
theorem Dtm.nil {K : PySem.W.Frag} {G B H : Hp} : Dtm K G B H [] [] := ⟨_, .nil⟩
theorem Dtm.cons {K : PySem.W.Frag} {G B H : Hp} {k : Kd} {v : V} {d : D} {vs : List (Kd × V)} {ds : List (Kd × D)} (n : d.old) (h : Dt K G B H v d) (t : Dtm K G B H vs ds) : Dtm K G B H ((k, v) :: vs) ((k, d) :: ds) := let ⟨_, h⟩ := h; let ⟨_, t⟩ := t; ⟨_, .cons n h t⟩
theorem Dtm.uncons {K : PySem.W.Frag} {G B H : Hp} {k k' : Kd} {v : V} {d : D} {vs : List (Kd × V)} {ds : List (Kd × D)} (h : Dtm K G B H ((k, v) :: vs) ((k', d) :: ds)) : k = k' ∧ d.old ∧ Dt K G B H v d ∧ Dtm K G B H vs ds := by
  obtain ⟨S, h⟩ := h
  cases h with
  | cons n h t => exact ⟨rfl, n, ⟨_, h⟩, _, t⟩
theorem Dts.length {K : PySem.W.Frag} {G B H : Hp} {vs : List V} {ds : List D} (h : Dts K G B H vs ds) : vs.length = ds.length := let ⟨_, h⟩ := h; h.length
theorem Dtm.length {K : PySem.W.Frag} {G B H : Hp} {vs : List (Kd × V)} {ds : List (Kd × D)} (h : Dtm K G B H vs ds) : vs.length = ds.length := let ⟨_, h⟩ := h; h.length
/-- a list of trees, by places -/
theorem dts_iff {K : PySem.W.Frag} {G B H : Hp} : ∀ {vs : List V} {ds : List D}, Dts K G B H vs ds ↔ vs.length = ds.length ∧ (∀ d ∈ ds, d.old) ∧ ∀ (i : Nat) (v : V) (d : D), vs[i]? = some v → ds[i]? = some d → Dt K G B H v d
  | [], [] => ⟨fun _ => ⟨rfl, fun d m => by simp at m, fun i v d e => by simp at e⟩, fun _ => Dts.nil⟩
  | [], d :: ds => ⟨fun h => by simpa using h.length, fun h => by simpa using h.1⟩
  | v :: vs, [] => ⟨fun h => by simpa using h.length, fun h => by simpa using h.1⟩
  | v :: vs, d :: ds => by
    refine ⟨fun h => ⟨h.length, ?_⟩, fun ⟨hl, hn, h⟩ => ?_⟩
    · obtain ⟨h0, h1, h2⟩ := h.uncons
      refine ⟨fun x m => ?_, fun i x e e1 e2 => ?_⟩
      · rcases List.mem_cons.mp m with rfl | m
        · exact h0
        · exact (dts_iff.mp h2).2.1 x m
      · cases i with
        | zero => simp at e1 e2; subst e1 e2; exact h1
        | succ i => exact (dts_iff.mp h2).2.2 i x e (by simpa using e1) (by simpa using e2)
    · exact Dts.cons (hn d (by simp)) (h 0 v d rfl rfl) (dts_iff.mpr ⟨by simpa using hl, fun x m => hn x (by simp [m]), fun i x e e1 e2 => h (i + 1) x e (by simpa using e1) (by simpa using e2)⟩)
theorem Dts.get {K : PySem.W.Frag} {G B H : Hp} {vs : List V} {ds : List D} {i : Nat} {d : D} (h : Dts K G B H vs ds) (e : ds[i]? = some d) : ∃ v, vs[i]? = some v ∧ d.old ∧ Dt K G B H v d := by
  have hl : i < vs.length := by rw [h.length]; exact (List.getElem?_eq_some_iff.mp e).1
  exact ⟨vs[i], by simp [hl], (dts_iff.mp h).2.1 d (List.mem_of_getElem? e), (dts_iff.mp h).2.2 i _ d (by simp [hl]) e⟩
theorem Dts.nth {K : PySem.W.Frag} {G B H : Hp} {vs : List V} {ds : List D} {i : Nat} {v : V} (h : Dts K G B H vs ds) (e : vs[i]? = some v) : ∃ d, ds[i]? = some d ∧ d.old ∧ Dt K G B H v d := by
  have hl : i < ds.length := by rw [← h.length]; exact (List.getElem?_eq_some_iff.mp e).1
  have q : ds[i]? = some ds[i] := by simp [hl]
  exact ⟨ds[i], q, (dts_iff.mp h).2.1 _ (List.mem_of_getElem? q), (dts_iff.mp h).2.2 i v _ e q⟩
theorem Dts.append {K : PySem.W.Frag} {G B H : Hp} : ∀ {vs : List V} {ds : List D} {ws : List V} {es : List D}, Dts K G B H vs ds → Dts K G B H ws es → Dts K G B H (vs ++ ws) (ds ++ es)
  | [], [], _, _, _, h => h
  | [], d :: ds, _, _, h, _ => by have := h.length; simp at this
  | v :: vs, [], _, _, h, _ => by have := h.length; simp at this
  | v :: vs, d :: ds, _, _, h, h' => Dts.cons h.uncons.1 h.uncons.2.1 (Dts.append h.uncons.2.2 h')
theorem Dts.take {K : PySem.W.Frag} {G B H : Hp} : ∀ {vs : List V} {ds : List D} (n : Nat), Dts K G B H vs ds → Dts K G B H (vs.take n) (ds.take n)
  | _, _, 0, _ => by simpa using Dts.nil
  | [], [], _, _ => by simpa using Dts.nil
  | [], d :: ds, _, h => by have := h.length; simp at this
  | v :: vs, [], _, h => by have := h.length; simp at this
  | v :: vs, d :: ds, n + 1, h => Dts.cons h.uncons.1 h.uncons.2.1 (Dts.take n h.uncons.2.2)
theorem Dts.drop {K : PySem.W.Frag} {G B H : Hp} : ∀ {vs : List V} {ds : List D} (n : Nat), Dts K G B H vs ds → Dts K G B H (vs.drop n) (ds.drop n)
  | _, _, 0, h => h
  | [], [], _, _ => by simpa using Dts.nil
  | [], d :: ds, _, h => by have := h.length; simp at this
  | v :: vs, [], _, h => by have := h.length; simp at this
  | v :: vs, d :: ds, n + 1, h => Dts.drop n h.uncons.2.2
theorem Dts.set {K : PySem.W.Frag} {G B H : Hp} {v : V} {d : D} (n : d.old) (hd : Dt K G B H v d) : ∀ {vs : List V} {ds : List D} (n : Nat), Dts K G B H vs ds → Dts K G B H (vs.set n v) (ds.set n d)
  | [], [], _, h => h
  | [], d :: ds, _, h => by have := h.length; simp at this
  | v :: vs, [], _, h => by have := h.length; simp at this
  | v :: vs, d :: ds, 0, h => Dts.cons n hd h.uncons.2.2
  | v :: vs, d :: ds, k + 1, h => Dts.cons h.uncons.1 h.uncons.2.1 (Dts.set n hd k h.uncons.2.2)
/-- arguments: new ones too -/
inductive Dta (K : PySem.W.Frag) (G B H : Hp) : List V → List D → Prop
  | nil : Dta K G B H [] []
  | cons {v : V} {d : D} {vs : List V} {ds : List D} (h : Dt K G B H v d) (t : Dta K G B H vs ds) : Dta K G B H (v :: vs) (d :: ds)
theorem Dta.length {K : PySem.W.Frag} {G B H : Hp} : ∀ {vs : List V} {ds : List D}, Dta K G B H vs ds → vs.length = ds.length
  | _, _, .nil => rfl
  | _, _, .cons _ t => congrArg (· + 1) (Dta.length t)
theorem Dta.ext {K : PySem.W.Frag} {G B H G' H' : Hp} (e : Ext G H G' H') : ∀ {vs : List V} {ds : List D}, Dta K G B H vs ds → Dta K G' B H' vs ds
  | _, _, .nil => .nil
  | _, _, .cons h t => .cons (Dt.ext e h) (Dta.ext e t)
theorem dts1 {K : PySem.W.Frag} {G B H : Hp} {xs : List V} {d : D} (h : Dta K G B H xs [d]) : ∃ v, xs = [v] ∧ Dt K G B H v d := by
  cases h with
  | cons h t => cases t; exact ⟨_, rfl, h⟩
theorem dts2 {K : PySem.W.Frag} {G B H : Hp} {xs : List V} {d e : D} (h : Dta K G B H xs [d, e]) : ∃ v w, xs = [v, w] ∧ Dt K G B H v d ∧ Dt K G B H w e := by
  cases h with
  | cons h t => cases t with
    | cons h' t => cases t; exact ⟨_, _, rfl, h, h'⟩
theorem dt_bl {K : PySem.W.Frag} {G B H : Hp} {v : V} {c : Bool} (h : Dt K G B H v (.bl c)) : v = .bl c := by obtain ⟨_, h⟩ := h; cases h; rfl
theorem dt_int {K : PySem.W.Frag} {G B H : Hp} {v : V} {c : Int} (h : Dt K G B H v (.int c)) : v = .int c := by obtain ⟨_, h⟩ := h; cases h; rfl
theorem dt_str {K : PySem.W.Frag} {G B H : Hp} {v : V} {c : Str} (h : Dt K G B H v (.str c)) : v = .str c := by obtain ⟨_, h⟩ := h; cases h; rfl
theorem dt_non {K : PySem.W.Frag} {G B H : Hp} {v : V} (h : Dt K G B H v .non) : v = .non := by obtain ⟨_, h⟩ := h; cases h; rfl
theorem dt_ty {K : PySem.W.Frag} {G B H : Hp} {v : V} {n : String} (h : Dt K G B H v (.ty n)) : v = .ty n := by obtain ⟨_, h⟩ := h; cases h; rfl
theorem dt_tup {K : PySem.W.Frag} {G B H : Hp} {v : V} {ds : List D} (gh : Sub G H) (h : Dt K G B H v (.tup ds)) : ∃ p vs, v = .ref p ∧ SqT K H p vs ∧ TupO K G p vs ∧ Dts K G B H vs ds := by
  obtain ⟨_, h⟩ := h
  cases h with
  | tup h hs => exact ⟨_, _, rfl, gh.n.sqT h.sq, h, _, hs⟩
theorem dt_tuk {K : PySem.W.Frag} {G B H : Hp} {v : V} {ds : List D} (gh : Sub G H) (h : Dt K G B H v (.tuk ds)) : ∃ p vs, v = .ref p ∧ SqT K H p vs ∧ Dts K G B H vs ds := by
  obtain ⟨_, h⟩ := h
  cases h with
  | tuk h hs => exact ⟨_, _, rfl, gh.n.sqT h, _, hs⟩
/-- a list, locked or not -/
theorem dt_lst {K : PySem.W.Frag} {G B H : Hp} {v : V} {f : Fl} {ds : List D} (gh : Sub G H) (bh : SmN B H) (h : Dt K G B H v (.lst f ds)) : ∃ p vs, v = .ref p ∧ SqL K H p vs ∧ Dts K G B H vs ds := by
  obtain ⟨_, h⟩ := h
  cases h with
  | lst h hs => exact ⟨_, _, rfl, SqL.of (Nd.here gh bh h), _, hs⟩
  | lok h hs => exact ⟨_, _, rfl, h.elim bh.seq gh.seq, _, hs⟩
theorem dt_lstX {K : PySem.W.Frag} {G B H : Hp} {v : V} {f : Fl} {ds : List D} (gh : Sub G H) (bh : SmN B H) (hf : f ≠ .loc) (h : Dt K G B H v (.lst f ds)) : ∃ p vs, v = .ref p ∧ H p = some (.lst vs) ∧ Dts K G B H vs ds := by
  obtain ⟨_, h⟩ := h
  cases h with
  | lst h hs => exact ⟨_, _, rfl, Nd.here gh bh h, _, hs⟩
  | lok h hs => exact absurd rfl hf
theorem dt_dic {K : PySem.W.Frag} {G B H : Hp} {v : V} {f : Fl} {ds : List (Kd × D)} (gh : Sub G H) (bh : SmN B H) (h : Dt K G B H v (.dic f ds)) : ∃ p vs, v = .ref p ∧ Rd H p (.dK vs) ∧ Dtm K G B H (vs.map kK) ds := by
  obtain ⟨_, h⟩ := h
  cases h with
  | dic h hs => exact ⟨_, _, rfl, NdR.here gh bh h, _, hs⟩
theorem dt_dit {K : PySem.W.Frag} {G B H : Hp} {v : V} {f : Fl} {ds : List (Kd × D)} (gh : Sub G H) (bh : SmN B H) (h : Dt K G B H v (.dit f ds)) : ∃ p vs, v = .ref p ∧ Rd H p (.dT vs) ∧ Dtm K G B H (vs.map kT) ds := by
  obtain ⟨_, h⟩ := h
  cases h with
  | dit h hs => exact ⟨_, _, rfl, NdR.here gh bh h, _, hs⟩
theorem dt_obj {K : PySem.W.Frag} {G B H : Hp} {v : V} {f : Fl} {C : Addr} {ds : List (Kd × D)} (gh : Sub G H) (bh : SmN B H) (h : Dt K G B H v (.obj f C ds)) : ∃ p dx vs, v = .ref p ∧ H p = some (.ins C dx vs) ∧ Dtm K G B H (vs.map kF) ds := by
  obtain ⟨_, h⟩ := h
  cases h with
  | obj h hs => exact ⟨_, _, _, rfl, Nd.here gh bh h, _, hs⟩

/-! ### the reading -/
structure Plc where
  s : List Sl
  a : List (Option D)
/-- a name's tree -/
noncomputable def look (ρ : Plc) (i : Nat) : Option D := match ρ.s[i]? with
  | some (.val d) => some d
  | some (.arg j) => (ρ.a[j]?).bind id
  | _ => none
/-- the places may be read -/
structure SOk (K : PySem.W.Frag) (G B H : Hp) (As : List V) (σ : L2.St) (ρ : Plc) : Prop where
  gh : Sub G H
  bh : SmN B H
  len : ρ.s.length = σ.length
  at' : ∀ (i : Nat) (d : D), ρ.s[i]? = some (Sl.val d) → d.old ∧ ∃ v, σ[i]? = some (some v) ∧ Dt K G B H v d
  arg : ∀ (i j : Nat), ρ.s[i]? = some (Sl.arg j) → ∃ v, σ[i]? = some (some v) ∧ As[j]? = some v
  ar : ∀ (j : Nat) (d : D), ρ.a[j]? = some (some d) → d.old ∧ ∃ v, As[j]? = some v ∧ Dt K G B H v d
theorem SOk.ext {K : PySem.W.Frag} {G B H G' H' : Hp} {As : List V} {σ : L2.St} {ρ : Plc} (s : SOk K G B H As σ ρ) (e : Ext G H G' H') : SOk K G' B H' As σ ρ :=
  ⟨e.gh, s.bh.trans e.h, s.len, fun i d q => let ⟨n, v, h1, h2⟩ := s.at' i d q; ⟨n, v, h1, Dt.ext e h2⟩, s.arg, fun j d q => let ⟨n, v, h1, h2⟩ := s.ar j d q; ⟨n, v, h1, Dt.ext e h2⟩⟩
theorem SOk.look {K : PySem.W.Frag} {G B H : Hp} {As : List V} {σ : L2.St} {ρ : Plc} (s : SOk K G B H As σ ρ) {i : Nat} {d : D} (h : look ρ i = some d) : d.old ∧ ∃ v, σ[i]? = some (some v) ∧ Dt K G B H v d := by
  unfold VL.look at h
  cases e : ρ.s[i]? with
  | none => rw [e] at h; cases h
  | some x =>
    rw [e] at h
    cases x with
    | no => cases h
    | val d' => cases h; exact s.at' i d e
    | arg j =>
      obtain ⟨v, h1, h2⟩ := s.arg i j e
      change (ρ.a[j]?).bind id = some d at h
      obtain ⟨n, v', h3, h4⟩ := s.ar j d (by
        cases e2 : ρ.a[j]? with
        | none => rw [e2] at h; cases h
        | some y => rw [e2] at h; cases y with
          | none => cases h
          | some z => cases h; rfl)
      rw [h2] at h3
      cases h3
      exact ⟨n, v, h1, h4⟩
/-- a new root is new -/
noncomputable def Fresh (H G : Hp) (v : V) (d : D) : Prop := d.root = some .new → ∃ p, v = .ref p ∧ H p = none ∧ G p = none
theorem Fresh.of {H G : Hp} {v : V} {d : D} (h : d.root ≠ some .new) : Fresh H G v d := fun e => absurd e h
theorem Fresh.back {G H G1 H1 G2 : Hp} {v : V} {d : D} (e : Ext G H G1 H1) (h : Fresh H1 G2 v d) : Fresh H G2 v d := fun r => let ⟨p, a, b, c⟩ := h r; ⟨p, a, (e.h.z _ b), c⟩
/-- a new root stays new while more is laid -/
theorem Fresh.on {K : PySem.W.Frag} {B H G1 H1 G2 H2 : Hp} {v : V} {d : D} (h : Fresh H G1 v d) (hd : Dt K G1 B H1 v d) (e : Ext G1 H1 G2 H2) : Fresh H G2 v d := fun r => by
  obtain ⟨p, rfl, h1, h2⟩ := h r
  refine ⟨p, rfl, h1, ?_⟩
  cases q : G2 p with
  | none => rfl
  | some o =>
    rcases e.new p o q with z | z
    · rw [h2] at z; cases z
    · obtain ⟨_, hd⟩ := hd
      cases hd with
      | lst n _ => cases r; rw [show H1 p = _ from n] at z; cases z
      | dic n _ =>
        cases r
        rcases n with n | ⟨nn, ob, n⟩
        · rw [show H1 p = _ from n] at z; cases z
        · exact absurd rfl nn
      | dit n _ =>
        cases r
        rcases n with n | ⟨nn, ob, n⟩
        · rw [show H1 p = _ from n] at z; cases z
        · exact absurd rfl nn
      | obj n _ => cases r; rw [show H1 p = _ from n] at z; cases z
      | din hw n _ _ => cases r; rw [show H1 p = _ from n] at z; cases z
      | _ => cases r
noncomputable def ExnR (K : PySem.W.Frag) (G B H : Hp) (x : Exn) (cls : Value) (dx : Option Addr) : Prop :=
  cls = x.cls ∧ match x.flds with
    | none => dx = none
    | some fs => ∃ d vs, dx = some d ∧ G d = some (.xd vs) ∧ FldsOf vs fs
noncomputable abbrev FQ := Plc → Out Exn D
noncomputable abbrev FT := Plc → Out Exn Bool
noncomputable abbrev FA := Plc → Out Exn (List D)
noncomputable def EX (K : PySem.W.Frag) (W : WX) (G B H : Hp) (σ : L2.St) (x : Exn) : Prop := ∀ G' H' cls dx, Ext G H G' H' → ExnR K G' B H' x cls dx → W cls dx σ H'
theorem EX.ext {K : PySem.W.Frag} {W : WX} {G B H G' H' : Hp} {σ : L2.St} {x : Exn} (e : Ext G H G' H') (h : EX K W G B H σ x) : EX K W G' B H' σ x := fun G2 H2 cls dx e2 r => h G2 H2 cls dx (e.trans e2) r
noncomputable def KQ (K : PySem.W.Frag) (G B H : Hp) (R : VK) (d : D) : Prop := ∀ G' H' v, Ext G H G' H' → Dt K G' B H' v d → Fresh H G' v d → R v H'
theorem KQ.ext {K : PySem.W.Frag} {G B H G' H' : Hp} {R : VK} {d : D} (e : Ext G H G' H') (h : KQ K G B H R d) : KQ K G' B H' R d := fun G2 H2 v e2 r f => h G2 H2 v (e.trans e2) r (f.back e)
noncomputable def KT (G H : Hp) (R : Bool → Hp → Prop) (b : Bool) : Prop := ∀ G' H', Ext G H G' H' → R b H'
noncomputable def KA (K : PySem.W.Frag) (G B H : Hp) (R : List V → Hp → Prop) (ds : List D) : Prop := ∀ G' H' vs, Ext G H G' H' → Dta K G' B H' vs ds → (∀ v d, (v, d) ∈ vs.zip ds → Fresh H G' v d) → R vs H'
noncomputable def upQ (K : PySem.W.Frag) (W : WX) (f : FQ) : TE := fun σ H R => ∃ (G B : Hp) (As : List V) (ρ : Plc), SOk K G B H As σ ρ ∧ (f ρ).P (KQ K G B H R) (EX K W G B H σ)
noncomputable def upQT (K : PySem.W.Frag) (W : WX) (f : FT) : TT := fun σ H R => ∃ (G B : Hp) (As : List V) (ρ : Plc), SOk K G B H As σ ρ ∧ (f ρ).P (KT G H R) (EX K W G B H σ)
noncomputable def upQA (K : PySem.W.Frag) (W : WX) (f : FA) : TA := fun σ H R => ∃ (G B : Hp) (As : List V) (ρ : Plc), SOk K G B H As σ ρ ∧ (f ρ).P (KA K G B H R) (EX K W G B H σ)
noncomputable abbrev QE (X : Cx) (W : WX) (e : Expr) (f : FQ) : Prop := PE X e (upQ X.K W f)
noncomputable abbrev QT (X : Cx) (W : WX) (e : Expr) (f : FT) : Prop := PT X e (upQT X.K W f)
noncomputable abbrev QW (X : Cx) (W : WX) (e : Expr) (f : FT) : Prop := PW X e (upQT X.K W f)
noncomputable abbrev QA (X : Cx) (W : WX) (es : List Expr) (f : FA) : Prop := PA X es (upQA X.K W f)
theorem peI {X : Cx} {e : Expr} {t t' : TE} (h : PE X e t) (i : ∀ σ H R, t' σ H R → t σ H R) : PE X e t' := ⟨fun pins s σ H Q I q => h.run pins s σ H Q I (i σ H Q q)⟩
theorem ptI {X : Cx} {e : Expr} {t t' : TT} (h : PT X e t) (i : ∀ σ H R, t' σ H R → t σ H R) : PT X e t' := ⟨fun pins s σ H Q I q => h.run pins s σ H Q I (i σ H Q q)⟩
theorem pwI {X : Cx} {e : Expr} {t t' : TT} (h : PW X e t) (i : ∀ σ H R, t' σ H R → t σ H R) : PW X e t' := ⟨fun w pins s σ H Q I q => h.run w pins s σ H Q I (i σ H Q q)⟩
theorem paI {X : Cx} {e : List Expr} {t t' : TA} (h : PA X e t) (i : ∀ σ H R, t' σ H R → t σ H R) : PA X e t' := ⟨fun pos pins s σ H Q I q => h.run pos pins s σ H Q I (i σ H Q q)⟩
/-- an expression, then what is made of it -/
theorem upQ_bind {K : PySem.W.Frag} {W : WX} {fa : FQ} {α : Type} {k : D → Out Exn α} {σ : L2.St} {H : Hp} {R : VK} {G B : Hp} {As : List V} {ρ : Plc} {P : α → Prop} (so : SOk K G B H As σ ρ) (h : ((fa ρ).bind k).P P (EX K W G B H σ))
    (go : ∀ d G1 H1 v, Ext G H G1 H1 → Dt K G1 B H1 v d → Fresh H G1 v d → (k d).P P (EX K W G B H σ) → R v H1) : upQ K W fa σ H R :=
  ⟨G, B, As, ρ, so, Out.P_mono (Out.P_bind.mp h) (fun d q G1 H1 v e hd f => go d G1 H1 v e hd f q) fun _ q => q⟩

/-! ### names, constants -/
noncomputable def qV (i : Nat) : FQ := fun ρ => match look ρ i with
  | some d => .ok d
  | none => .no
noncomputable def qC (d : D) : FQ := fun _ => .ok d
section
variable {X : Cx} {W : WX}
theorem KQ.given {K : PySem.W.Frag} {G B H : Hp} {R : VK} {v : V} {d : D} (gh : Sub G H) (k : KQ K G B H R d) (h : Dt K G B H v d) (f : Fresh H G v d) : R v H := k G H v (Ext.refl gh) h f
/-- something new is laid -/
theorem KQ.floorL {K : PySem.W.Frag} {G B H : Hp} {R : VK} {p : Addr} {vs : List V} {ds : List D} (gh : Sub G H) (hp : H p = none) (hd : Dts K G B H vs ds) (k : KQ K G B H R (.lst .new ds)) : R (.ref p) (upd H p (.lst vs)) := by
  have e := Ext.lay (o := .lst vs) gh hp
  obtain ⟨S, h⟩ := Dts.ext e hd
  exact k G _ _ e ⟨_, .lst (f := .new) upd_same h⟩ fun _ => ⟨p, rfl, hp, (gh.n.z _ hp)⟩
theorem KQ.floorT {K : PySem.W.Frag} {G B H : Hp} {R : VK} {p : Addr} {vs : List V} {ds : List D} (gh : Sub G H) (hp : H p = none) (hd : Dts K G B H vs ds) (k : KQ K G B H R (.tup ds)) : R (.ref p) (upd H p (.tup vs)) := by
  have e := Ext.layG (o := .tup vs) gh hp
  obtain ⟨S, h⟩ := Dts.ext e hd
  exact k _ _ _ e ⟨_, .tup (.inl upd_same) h⟩ (Fresh.of (by simp [D.root]))
theorem qe_var {i : Nat} {x : Str} {pos : Pos} (hN : X.N[i]? = some x) (hv : Vis X.env.scope x) (hd : (x == ("__debug__" : Str)) = false := by decide) (hcd : (x == ("__classdict__" : Str)) = false := by decide) : QE X W (.Name x pos) (qV i) :=
  peI (pe_var hN hv hd hcd) fun σ H R ⟨G, B, As, ρ, so, q⟩ => by
    unfold qV at q
    cases e : look ρ i with
    | none => rw [e] at q; exact q.elim
    | some d =>
      rw [e] at q
      obtain ⟨n, v, h1, h2⟩ := so.look e
      exact ⟨v, h1, KQ.given so.gh q h2 (Fresh.of n)⟩
theorem qv (i : Nat) {x : Str} {pos : Pos} (hN : X.N[i]? = some x := by rfl) (hv : Vis X.env.scope x := by first | exact Or.inl rfl | exact Or.inr (Or.inl rfl) | exact Or.inr (Or.inr rfl)) (hd : (x == ("__debug__" : Str)) = false := by decide)
    (hcd : (x == ("__classdict__" : Str)) = false := by decide) : QE X W (.Name x pos) (qV i) := qe_var hN hv hd hcd
theorem qe_c {e : Expr} {v : V} {d : D} (h : PE X e (tC v)) (hd : ∀ G B H, Dat X.K G B H [] v d) (hr : d.root ≠ some .new := by simp [D.root]) : QE X W e (qC d) :=
  peI h fun σ H R ⟨G, B, As, ρ, so, q⟩ => KQ.given so.gh q ⟨_, hd G B H⟩ (Fresh.of hr)
theorem qe_int {i j pos} : QE X W (.Constant (.int i) j pos) (qC (.int i)) := qe_c pe_int fun _ _ _ => .int i
theorem qe_bl {b j pos} : QE X W (.Constant (.bool b) j pos) (qC (.bl b)) := qe_c pe_bl fun _ _ _ => .bl b
theorem qe_str {x j pos} : QE X W (.Constant (.str x) j pos) (qC (.str x)) := qe_c pe_str fun _ _ _ => .str x
/-- a module's constant, class, function by its tree -/
theorem qe_glob {x : Str} {v : V} {u : Value} {d : D} {pos : Pos} (hm : X.mg x = some u) (r : RelV v u) (hd : ∀ G B H, Dat X.K G B H [] v d) (hr : d.root ≠ some .new := by simp [D.root]) (hg : Gl X x := by rfl) (hdb : (x == ("__debug__" : Str)) = false := by decide) : QE X W (.Name x pos) (qC d) :=
  qe_c (pe_glob hg hm r hdb) hd hr
theorem qe_bltn {x : Str} {v : V} {u : Value} {d : D} {pos : Pos} (hm : X.mg x = none) (hv : bootBuiltins x = some u) (r : RelV v u) (hd : ∀ G B H, Dat X.K G B H [] v d) (hr : d.root ≠ some .new := by simp [D.root]) (hg : Gl X x := by rfl) (hn : x ≠ "__name__" := by decide) (hdb : (x == ("__debug__" : Str)) = false := by decide) : QE X W (.Name x pos) (qC d) :=
  qe_c (pe_bltn hg hm hv r hn hdb) hd hr

/-! ### lists of expressions -/
noncomputable def aNil : FA := fun _ => .ok []
noncomputable def aCons (f : FQ) (g : FA) : FA := fun ρ => (f ρ).bind fun d => (g ρ).bind fun ds => .ok (d :: ds)
theorem qa_nil : QA X W [] aNil := paI pa_nil fun σ H R ⟨G, B, As, ρ, so, q⟩ => q G H [] (Ext.refl so.gh) .nil fun v d h => by simp at h
theorem qa_cons {e : Expr} {es : List Expr} {f : FQ} {g : FA} (ha : QE X W e f) (hr : QA X W es g) (hs : starEach (e :: es) X.env = (false, eval e X.env) :: starEach es X.env := by rfl) : QA X W (e :: es) (aCons f g) :=
  paI (pa_cons ha hr hs) fun σ H R ⟨G, B, As, ρ, so, q⟩ => upQ_bind so q fun d G1 H1 v e1 hd fr q1 =>
    ⟨G1, B, As, ρ, so.ext e1, Out.P_mono (Out.P_bind.mp q1) (fun ds q2 G2 H2 vs e2 hds frs => q2 G2 H2 (v :: vs) (e1.trans e2) (.cons (Dt.ext e2 hd) hds) fun w dw m => by
      rcases List.mem_cons.mp m with m | m
      · cases m
        exact Fresh.on fr hd e2
      · exact (frs w dw m).back e1) fun x h => EX.ext e1 h⟩

/-! ### operators by values -/
structure V1 (K : PySem.W.Frag) (r : V → Hp → VK → Prop) (f : D → Out Exn D) : Prop where
  go : ∀ (G B H : Hp) (x : V) (dx : D) (R : VK), Sub G H → SmN B H → Dt K G B H x dx → (f dx).P (KQ K G B H R) (fun _ => False) → r x H R
structure V2 (K : PySem.W.Frag) (r : R2) (f : D → D → Out Exn D) : Prop where
  go : ∀ (G B H : Hp) (x y : V) (dx dy : D) (R : VK), Sub G H → SmN B H → Dt K G B H x dx → Dt K G B H y dy → (f dx dy).P (KQ K G B H R) (fun _ => False) → r x y H R
structure Vs (K : PySem.W.Frag) (r : List V → Hp → VK → Prop) (f : List D → Out Exn D) : Prop where
  go : ∀ (G B H : Hp) (xs : List V) (ds : List D) (R : VK), Sub G H → SmN B H → Dta K G B H xs ds → (f ds).P (KQ K G B H R) (fun _ => False) → r xs H R
/-- what no operator raises -/
noncomputable def Out.pure {α : Type} (o : Out Exn α) : Out Exn α := match o with
  | .ok a => .ok a
  | _ => .no
theorem pure_P {α : Type} {o : Out Exn α} {P : α → Prop} {E : Exn → Prop} (h : o.pure.P P E) : o.P P (fun _ => False) := by
  cases o with
  | ok a => exact h
  | ex e => exact h.elim
  | no => exact h.elim
noncomputable def qOp (f : D → D → Out Exn D) (fa fb : FQ) : FQ := fun ρ => (fa ρ).bind fun x => (fb ρ).bind fun y => (f x y).pure
noncomputable def qCB (f : List D → Out Exn D) (fa : FA) : FQ := fun ρ => (fa ρ).bind fun xs => (f xs).pure
variable {a b c e o : Expr} {es : List Expr} {fa fb fc : FQ} {ga : FA} {pos p apos : Pos} {x : Str} {id T : String}
theorem up_op {K : PySem.W.Frag} {r : R2} {f : D → D → Out Exn D} (hv : V2 K r f) {σ : L2.St} {H : Hp} {R : VK} (h : upQ K W (qOp f fa fb) σ H R) : tOp r (upQ K W fa) (upQ K W fb) σ H R := by
  obtain ⟨G, B, As, ρ, so, q⟩ := h
  exact upQ_bind so q fun d G1 H1 v e1 hd fr q1 => upQ_bind (so.ext e1) (Out.P_mono q1 (fun _ k => KQ.ext e1 k) fun _ z => EX.ext e1 z) fun d2 G2 H2 v2 e2 hd2 fr2 q2 =>
    hv.go G2 B H2 v v2 d d2 R e2.gh ((so.ext e1).ext e2).bh (Dt.ext e2 hd) hd2 (Out.P_mono (pure_P q2) (fun _ k => k.ext e2) fun _ z => z)
theorem up_cb {K : PySem.W.Frag} {r : List V → Hp → VK → Prop} {f : List D → Out Exn D} (hv : Vs K r f) {σ : L2.St} {H : Hp} {R : VK} (h : upQ K W (qCB f ga) σ H R) : tCB r (upQA K W ga) σ H R := by
  obtain ⟨G, B, As, ρ, so, q⟩ := h
  exact ⟨G, B, As, ρ, so, Out.P_mono (Out.P_bind.mp q) (fun ds q1 G1 H1 vs e1 hds _ => hv.go G1 B H1 vs ds R e1.gh (so.ext e1).bh hds (Out.P_mono (pure_P q1) (fun _ k => k.ext e1) fun _ z => z)) fun _ z => z⟩
theorem qe_op {op : Operator} {r : R2} {f : D → D → Out Exn D} (ho : OpR X (binaryOp op) r) (hv : V2 X.K r f) (ha : QE X W a fa) (hb : QE X W b fb) : QE X W (.BinOp a op b pos) (qOp f fa fb) := peI (pe_op ho ha hb) fun _ _ _ h => up_op hv h
theorem qe_cmp {op : CmpOp} {r : R2} {f : D → D → Out Exn D} (ho : OpR X (compareOp op) r) (hv : V2 X.K r f) (ha : QE X W a fa) (hb : QE X W b fb) (hm : behindInMarks op b = false := by first | exact nomark _ | rfl) : QE X W (.Compare a [op] [b] pos) (qOp f fa fb) := peI (pe_cmpR ho ha hb hm) fun _ _ _ h => up_op hv h
theorem qe_ix {r : R2} {f : D → D → Out Exn D} (hr : IxR X r) (hv : V2 X.K r f) (ha : QE X W a fa) (hb : QE X W b fb) (hs : PlainIx b := by intro _ _; rfl) : QE X W (.Subscript a b pos) (qOp f fa fb) := peI (pe_ix hr ha hb hs) fun _ _ _ h => up_op hv h
theorem qe_callB {r : List V → Hp → VK → Prop} {f : List D → Out Exn D} (hc : CallR X (.builtin id) r) (hv : Vs X.K r f) (hm : X.mg x = none) (hb : bootBuiltins x = some (.builtin id)) (ha : QA X W (e :: es) ga) (hg : Gl X x := by rfl) (hn : x ≠ "__name__" := by decide) (hdb : (x == ("__debug__" : Str)) = false := by decide)
    (he : starEach (e :: es) X.env = (false, eval e X.env) :: starEach es X.env := by rfl) (hpl : (backTo pos (starEach es X.env)).any (·.1) = false := by rfl) : QE X W (.Call (.Name x p) (e :: es) [] pos) (qCB f ga) := peI (pe_callB hc hg hm hb ha hn hdb he hpl) fun _ _ _ h => up_cb hv h
theorem qe_callTy {r : List V → Hp → VK → Prop} {f : List D → Out Exn D} (hc : CallR X (.type T) r) (hv : Vs X.K r f) (hm : X.mg x = none) (hb : bootBuiltins x = some (.type T)) (ha : QA X W (e :: es) ga) (hg : Gl X x := by rfl) (hn : x ≠ "__name__" := by decide) (hdb : (x == ("__debug__" : Str)) = false := by decide)
    (he : starEach (e :: es) X.env = (false, eval e X.env) :: starEach es X.env := by rfl) (hpl : (backTo pos (starEach es X.env)).any (·.1) = false := by rfl) : QE X W (.Call (.Name x p) (e :: es) [] pos) (qCB f ga) := peI (pe_callTy hc hg hm hb ha hn hdb he hpl) fun _ _ _ h => up_cb hv h
/-- a > b > c -/
noncomputable def qChain (f g : D → D → Out Exn D) (fa fb fc : FQ) : FQ := fun ρ => (fa ρ).bind fun x => (fb ρ).bind fun y => (f x y).pure.bind fun z => match z with
  | .bl true => (fc ρ).bind fun w => (g y w).pure
  | .bl false => .ok (.bl false)
  | _ => .no
theorem qe_chain {op op' : CmpOp} {r r' : R2} {f g : D → D → Out Exn D} (ho : OpR X (compareOp op) r) (ho' : OpR X (compareOp op') r') (hv : V2 X.K r f) (hv' : V2 X.K r' g) (ha : QE X W a fa) (hb : QE X W b fb) (hc : QE X W c fc)
    (hm : lastMarks [op, op'] [b, c] = false := by with_unfolding_all rfl) : QE X W (.Compare a [op, op'] [b, c] pos) (qChain f g fa fb fc) :=
  peI (pe_chain ho ho' ha hb hc hm) fun σ H R ⟨G, B, As, ρ, so, q⟩ =>
  upQ_bind so q fun d G1 H1 v e1 hd fr q1 => upQ_bind (so.ext e1) (Out.P_mono q1 (fun _ k => KQ.ext e1 k) fun _ z => EX.ext e1 z) fun d2 G2 H2 v2 e2 hd2 fr2 q2 =>
    have so2 := (so.ext e1).ext e2
    hv.go G2 B H2 v v2 d d2 _ e2.gh so2.bh (Dt.ext e2 hd) hd2 (Out.P_mono (pure_P (Out.P_bind.mp q2)) (fun dz q3 G3 H3 z e3 hz _ => by
      cases dz with
      | bl k =>
        refine ⟨k, dt_bl hz, ?_⟩
        cases k with
        | false => exact iteF (q3 G3 H3 _ (e2.trans e3) ⟨_, .bl false⟩ (Fresh.of (by simp [D.root])))
        | true => exact iteT (upQ_bind (so2.ext e3) (Out.P_mono q3 (fun _ k => KQ.ext (e2.trans e3) k) fun _ z => EX.ext (e2.trans e3) z) fun d4 G4 H4 v4 e4 hd4 fr4 q4 =>
            hv'.go G4 B H4 v2 v4 d2 d4 R e4.gh ((so2.ext e3).ext e4).bh (Dt.ext (e3.trans e4) hd2) hd4 (Out.P_mono (pure_P q4) (fun _ k => k.ext e4) fun _ z => z))
      | _ => exact q3.elim) fun _ z => z)
end
end VL

/-! VLc: tests, displays, fields, slices, methods of texts. -/
namespace VL
open PySem PySem.Spec PyProof.Rows L2
variable [LamT]

noncomputable def toB : D → Out Exn Bool
  | .bl b => .ok b
  | _ => .no
noncomputable def toI : D → Out Exn Int
  | .int i => .ok i
  | _ => .no
noncomputable def tV (fa : FQ) : FT := fun ρ => (fa ρ).bind toB
noncomputable def tNot (t : FT) : FT := fun ρ => (t ρ).bind fun b => .ok (!b)
noncomputable def tOr (t u : FT) : FT := fun ρ => (t ρ).bind fun b => if b = true then .ok true else u ρ
noncomputable def qNot (fa : FQ) : FQ := fun ρ => (fa ρ).bind fun d => (toB d).bind fun b => .ok (.bl (!b))
noncomputable def qAnd (fa fb : FQ) : FQ := fun ρ => (fa ρ).bind fun d => (toB d).bind fun b => if b = true then fb ρ else .ok (.bl false)
noncomputable def qOr (fa fb : FQ) : FQ := fun ρ => (fa ρ).bind fun d => (toB d).bind fun b => if b = true then .ok (.bl true) else fb ρ
theorem toB_P {d : D} {P : Bool → Prop} {E : Exn → Prop} (h : (toB d).P P E) : ∃ b, d = .bl b ∧ P b := by
  cases d with
  | bl b => exact ⟨b, rfl, h⟩
  | _ => exact h.elim
theorem toI_P {d : D} {P : Int → Prop} {E : Exn → Prop} (h : (toI d).P P E) : ∃ b, d = .int b ∧ P b := by
  cases d with
  | int b => exact ⟨b, rfl, h⟩
  | _ => exact h.elim
section
variable {X : Cx} {W : WX} {a b c e o : Expr} {es : List Expr} {fa fb fc : FQ} {ga : FA} {pos p apos : Pos} {x : Str} {id T : String} {t u : FT} {rest : List Expr}
theorem KT.ext {G H G' H' : Hp} {R : Bool → Hp → Prop} {d : Bool} (e : Ext G H G' H') (h : KT G H R d) : KT G' H' R d := fun G2 H2 e2 => h G2 H2 (e.trans e2)
theorem up_b {K : PySem.W.Frag} {σ : L2.St} {H : Hp} {R : Bool → Hp → Prop} (h : upQT K W (tV fa) σ H R) : tB (upQ K W fa) σ H R := by
  obtain ⟨G, B, As, ρ, so, q⟩ := h
  refine upQ_bind so q fun d G1 H1 v e1 hd fr q1 => ?_
  obtain ⟨b, rfl, q2⟩ := toB_P q1
  exact ⟨b, dt_bl hd, q2 G1 H1 e1⟩
theorem qt_val (h : QE X W a fa) (he : ∀ whole, isTrue a X.env whole = (do let v ← whole; standAt a.pos; holding [v] (truthy v)) := by intro _; rfl) : QT X W a (tV fa) := ptI (pt_val h he) fun _ _ _ h => up_b h
theorem qt_cmp {op : CmpOp} {r : R2} {f : D → D → Out Exn D} (ho : OpR X (compareOp op) r) (hv : V2 X.K r f) (ha : QE X W a fa) (hb : QE X W b fb) (hm : behindInMarks op b = false := by first | exact nomark _ | rfl) : QT X W (.Compare a [op] [b] pos) (tV (qOp f fa fb)) :=
  ptI (pt_cmpR ho ha hb hm) fun σ H R h => up_op hv (up_b h)
theorem upT_bind {K : PySem.W.Frag} {ft : FT} {α : Type} {k : Bool → Out Exn α} {σ : L2.St} {H : Hp} {R : Bool → Hp → Prop} {G B : Hp} {As : List V} {ρ : Plc} {P : α → Prop} (so : SOk K G B H As σ ρ) (h : ((ft ρ).bind k).P P (EX K W G B H σ))
    (go : ∀ d G1 H1, Ext G H G1 H1 → (k d).P P (EX K W G B H σ) → R d H1) : upQT K W ft σ H R :=
  ⟨G, B, As, ρ, so, Out.P_mono (Out.P_bind.mp h) (fun d q G1 H1 e => go d G1 H1 e q) fun _ q => q⟩
theorem qt_not (h : QT X W a t) : QT X W (.UnaryOp .Not a pos) (tNot t) := ptI (pt_not h) fun σ H R ⟨G, B, As, ρ, so, q⟩ => upT_bind so q fun d G1 H1 e1 q1 => q1 G1 H1 e1
theorem qw_or1 (h : QT X W a t) : QW X W (.BoolOp .Or [a] pos) t := pw_or1 h
theorem again_t {K : PySem.W.Frag} {u : FT} {σ : L2.St} {H G1 H1 : Hp} {R : Bool → Hp → Prop} {G B : Hp} {As : List V} {ρ : Plc} (so : SOk K G B H As σ ρ) (e : Ext G H G1 H1) (q : (u ρ).P (KT G H R) (EX K W G B H σ)) : upQT K W u σ H1 R :=
  ⟨G1, B, As, ρ, so.ext e, Out.P_mono q (fun _ k => KT.ext e k) fun _ k => EX.ext e k⟩
theorem again {K : PySem.W.Frag} {u : FQ} {σ : L2.St} {H G1 H1 : Hp} {R : VK} {G B : Hp} {As : List V} {ρ : Plc} (so : SOk K G B H As σ ρ) (e : Ext G H G1 H1) (q : (u ρ).P (KQ K G B H R) (EX K W G B H σ)) : upQ K W u σ H1 R :=
  ⟨G1, B, As, ρ, so.ext e, Out.P_mono q (fun _ k => KQ.ext e k) fun _ k => EX.ext e k⟩
theorem qw_or (h : QT X W a t) (h2 : QW X W (.BoolOp .Or (b :: rest) pos) u) : QW X W (.BoolOp .Or (a :: b :: rest) pos) (tOr t u) := pwI (pw_or h h2) fun σ H R ⟨G, B, As, ρ, so, q⟩ => upT_bind so q fun d G1 H1 e1 q1 => by
  cases d with
  | true => exact iteT ((show KT G H R true by simpa [Out.P] using q1) G1 H1 e1)
  | false => exact iteF (again_t so e1 (by simpa using q1))
theorem kq_bl {K : PySem.W.Frag} {G B H : Hp} {R : VK} {k : Bool} (q : KQ K G B H R (.bl k)) {G1 H1 : Hp} (e : Ext G H G1 H1) : R (.bl k) H1 := q G1 H1 _ e ⟨_, .bl k⟩ (Fresh.of (by simp [D.root]))
theorem qe_one {op} (h : QE X W a fa) : QE X W (.BoolOp op [a] pos) fa := pe_one h
theorem qe_and (h : QE X W a fa) (h2 : QE X W (.BoolOp .And (b :: rest) pos) fb) : QE X W (.BoolOp .And (a :: b :: rest) pos) (qAnd fa fb) := peI (pe_and h h2) fun σ H R ⟨G, B, As, ρ, so, q⟩ => upQ_bind so q fun d G1 H1 v e1 hd fr q1 => by
  obtain ⟨k, rfl, q2⟩ := toB_P (Out.P_bind.mp q1)
  refine ⟨k, dt_bl hd, ?_⟩
  cases k with
  | true => exact iteT (again so e1 (by simpa using q2))
  | false => exact iteF (kq_bl (by simpa [Out.P] using q2) e1)
theorem qe_or (h : QE X W a fa) (h2 : QE X W (.BoolOp .Or (b :: rest) pos) fb) : QE X W (.BoolOp .Or (a :: b :: rest) pos) (qOr fa fb) := peI (pe_or h h2) fun σ H R ⟨G, B, As, ρ, so, q⟩ => upQ_bind so q fun d G1 H1 v e1 hd fr q1 => by
  obtain ⟨k, rfl, q2⟩ := toB_P (Out.P_bind.mp q1)
  refine ⟨k, dt_bl hd, ?_⟩
  cases k with
  | true => exact iteT (kq_bl (by simpa [Out.P] using q2) e1)
  | false => exact iteF (again so e1 (by simpa using q2))
theorem qe_not (h : QE X W a fa) : QE X W (.UnaryOp .Not a pos) (qNot fa) := peI (pe_not h) fun σ H R ⟨G, B, As, ρ, so, q⟩ => upQ_bind so q fun d G1 H1 v e1 hd fr q1 => by
  obtain ⟨k, rfl, q2⟩ := toB_P (Out.P_bind.mp q1)
  exact ⟨k, dt_bl hd, kq_bl q2 e1⟩
/-! ### displays -/
/-- a new root is settled -/
noncomputable def D.st : D → D
  | .lst .new xs => .lst .frz xs
  | .dic .new xs => .dic .frz xs
  | .dit .new xs => .dit .frz xs
  | .din .new xs => .din .frz xs
  | .obj .new C xs => .obj .frz C xs
  | d => d
theorem st_old (d : D) : d.st.old := by
  cases d with
  | lst f _ => cases f <;> simp [D.st, D.root]
  | dic f _ => cases f <;> simp [D.st, D.root]
  | dit f _ => cases f <;> simp [D.st, D.root]
  | din f _ => cases f <;> simp [D.st, D.root]
  | obj f _ _ => cases f <;> simp [D.st, D.root]
  | _ => simp [D.st, D.root]
theorem st_id {d : D} (h : d.old) : d.st = d := by
  cases d with
  | lst f _ => cases f <;> first | rfl | exact absurd rfl h
  | dic f _ => cases f <;> first | rfl | exact absurd rfl h
  | dit f _ => cases f <;> first | rfl | exact absurd rfl h
  | din f _ => cases f <;> first | rfl | exact absurd rfl h
  | obj f _ _ => cases f <;> first | rfl | exact absurd rfl h
  | _ => rfl
/-- all that is new since H is settled -/
noncomputable def grab (H G1 H1 : Hp) : Hp := fun a => match G1 a with
  | some o => some o
  | none => match H a with
    | none => H1 a
    | some _ => none
theorem grab_ext {G H G1 H1 : Hp} (e : Ext G H G1 H1) : Ext G H (grab H G1 H1) H1 ∧ Same G1 (grab H G1 H1) := by
  have s : Same G1 (grab H G1 H1) := fun a o q => by simp [grab, q]
  refine ⟨⟨e.h, fun a o q => s a o (e.g a o q), fun a o q => ?_, ⟨⟨fun a o q n => ?_, fun a ps q => ?_⟩, e.gh.t⟩⟩, s⟩
  · unfold grab at q
    cases q1 : G1 a with
    | some u => rw [q1] at q; cases q; exact e.new a _ q1
    | none =>
      rw [q1] at q
      cases q2 : H a with
      | some u => rw [q2] at q; cases q
      | none => exact .inr rfl
  · unfold grab at q
    cases q1 : G1 a with
    | some u => rw [q1] at q; cases q; exact e.gh a _ q1 n
    | none =>
      rw [q1] at q
      cases q2 : H a with
      | some u => rw [q2] at q; cases q
      | none => rw [q2] at q; exact q
  · unfold grab at q
    cases q1 : G1 a with
    | some u => rw [q1] at q; cases q; exact e.gh.n.y a _ q1
    | none =>
      rw [q1] at q
      cases q2 : H a with
      | some u => rw [q2] at q; cases q
      | none => rw [q2] at q; exact ⟨_, q⟩
theorem st_dt {K : PySem.W.Frag} {G B H G1 H1 : Hp} {v : V} {d : D} (e : Ext G H G1 H1) (hd : Dt K G1 B H1 v d) (fr : Fresh H G1 v d) : Dt K (grab H G1 H1) B H1 v d.st := by
  obtain ⟨e2, s⟩ := grab_ext e
  have rd : ∀ p o, H p = none → G1 p = none → H1 p = some o → grab H G1 H1 p = some o := fun p o a c b => by
    unfold grab
    simp [a, b, c]
  have hm : ∀ {d : D}, Dt K G1 B H1 v d → Dt K (grab H G1 H1) B H1 v d := fun h => let ⟨S, h⟩ := h; ⟨S, h.mono s (fun _ _ q => q) On.same⟩
  by_cases ho : d.old
  · rw [st_id ho]; exact hm hd
  · have hr : d.root = some .new := by simpa using ho
    obtain ⟨p, rfl, h1, h2⟩ := fr hr
    obtain ⟨S, hd'⟩ := hm hd
    cases hd' with
    | lst n hs => cases hr; exact ⟨_, .lst (f := .frz) (rd p _ h1 h2 n) hs⟩
    | dic n hs =>
      cases hr
      rcases n with n | ⟨nn, ob, n⟩
      · exact ⟨_, .dic (f := .frz) (.inl (rd p _ h1 h2 n)) hs⟩
      · exact absurd rfl nn
    | dit n hs =>
      cases hr
      rcases n with n | ⟨nn, ob, n⟩
      · exact ⟨_, .dit (f := .frz) (.inl (rd p _ h1 h2 n)) hs⟩
      · exact absurd rfl nn
    | obj n hs => cases hr; exact ⟨_, .obj (f := .frz) (rd p _ h1 h2 n) hs⟩
    | din hw n hk eq => cases hr; exact ⟨_, .din (f := .frz) hw (rd p _ h1 h2 n) hk eq⟩
    | _ => cases hr
theorem st_dts {K : PySem.W.Frag} {G B H G1 H1 : Hp} (e : Ext G H G1 H1) : ∀ {vs : List V} {ds : List D}, Dta K G1 B H1 vs ds → (∀ v d, (v, d) ∈ vs.zip ds → Fresh H G1 v d) → Dts K (grab H G1 H1) B H1 vs (ds.map D.st)
  | _, _, .nil, _ => Dts.nil
  | _, _, .cons h t, f => Dts.cons (st_old _) (st_dt e h (f _ _ (by simp))) (st_dts e t fun v d m => f v d (by simp [m]))
noncomputable def mkTup (ds : List D) : Out Exn D := if ds.length ≤ sizeLine then .ok (.tup (ds.map D.st)) else .no
noncomputable def mkLst (ds : List D) : Out Exn D := if ds.length ≤ sizeLine then .ok (.lst .new (ds.map D.st)) else .no
noncomputable def qTup (g : FA) : FQ := fun ρ => (g ρ).bind mkTup
noncomputable def qLst (g : FA) : FQ := fun ρ => (g ρ).bind mkLst
theorem Out.P_if {ε α : Type} {c : Prop} [Decidable c] {a : α} {P : α → Prop} {E : ε → Prop} (h : (if c then Out.ok a else Out.no : Out ε α).P P E) : c ∧ P a := by
  by_cases hc : c
  · rw [if_pos hc] at h; exact ⟨hc, h⟩
  · rw [if_neg hc] at h; exact h.elim
theorem qe_tup {x1} (h : QA X W es ga) : QE X W (.Tuple es x1 pos) (qTup ga) := peI (pe_tup h) fun σ H R ⟨G, B, As, ρ, so, q⟩ =>
  ⟨G, B, As, ρ, so, Out.P_mono (Out.P_bind.mp q) (fun ds q1 G1 H1 vs e1 hds frs => by
    obtain ⟨hl, q2⟩ := Out.P_if q1
    refine ⟨by rw [hds.length]; exact hl, fun p hp => ?_⟩
    obtain ⟨e2, _⟩ := grab_ext e1
    exact KQ.floorT e2.gh hp (st_dts e1 hds frs) (q2.ext e2)) fun _ z => z⟩
theorem qe_lst (h : QA X W es ga) : QE X W (.List es pos) (qLst ga) := peI (pe_lst h) fun σ H R ⟨G, B, As, ρ, so, q⟩ =>
  ⟨G, B, As, ρ, so, Out.P_mono (Out.P_bind.mp q) (fun ds q1 G1 H1 vs e1 hds frs => by
    obtain ⟨hl, q2⟩ := Out.P_if q1
    refine ⟨by rw [hds.length]; exact hl, fun p hp => ?_⟩
    obtain ⟨e2, _⟩ := grab_ext e1
    exact KQ.floorL e2.gh hp (st_dts e1 hds frs) (q2.ext e2)) fun _ z => z⟩

/-! ### fields -/
noncomputable def getK : List (Kd × D) → Kd → Option D
  | [], _ => none
  | (k', d) :: r, k => if k' = k then some d else getK r k
theorem Dtm.look {K : PySem.W.Frag} {G B H : Hp} {f : Str} : ∀ {vs : List (Str × V)} {ds : List (Kd × D)}, Dtm K G B H (vs.map kF) ds → (∀ d, getK ds (kS f) = some d → ∃ v, vs.lookup f = some v ∧ d.old ∧ Dt K G B H v d) ∧ (getK ds (kS f) = none → vs.lookup f = none)
  | [], [], _ => ⟨(fun d e => nomatch e), fun _ => rfl⟩
  | [], _ :: _, h => by have := h.length; simp at this
  | _ :: _, [], h => by have := h.length; simp at this
  | (k, v) :: vs, (k', d) :: ds, h => by
    obtain ⟨rfl, n, h1, h2⟩ := Dtm.uncons (k := kS k) (v := v) (vs := vs.map kF) h
    obtain ⟨i1, i2⟩ := Dtm.look (f := f) h2
    by_cases hk : k = f
    · subst hk
      refine ⟨fun d' e => ?_, fun e => ?_⟩
      · rw [getK, if_pos rfl] at e
        cases e
        exact ⟨v, by simp [List.lookup_cons], n, h1⟩
      · rw [getK, if_pos rfl] at e
        cases e
    · have hk' : (f == k) = false := beq_eq_false_iff_ne.mpr (Ne.symm hk)
      have ne : ¬ (kS k = kS f) := fun e => hk (by simpa using e)
      refine ⟨fun d' e => ?_, fun e => ?_⟩
      · rw [getK, if_neg ne] at e
        rw [List.lookup_cons, hk']
        exact i1 d' e
      · rw [getK, if_neg ne] at e
        rw [List.lookup_cons, hk']
        exact i2 e
noncomputable def fldD (C : Addr) (f : Str) : D → Out Exn D
  | .obj _ C' fs => if C' = C then (match getK fs (kS f) with | some d => .ok d | none => .no) else .no
  | _ => .no
noncomputable def qFld (C : Addr) (f : Str) (fa : FQ) : FQ := fun ρ => (fa ρ).bind (fldD C f)
theorem fldD_P {C : Addr} {f : Str} {d : D} {P : D → Prop} {E : Exn → Prop} (h : (fldD C f d).P P E) : ∃ fl fs d', d = .obj fl C fs ∧ getK fs (kS f) = some d' ∧ P d' := by
  cases d with
  | obj fl C' fs =>
    simp only [fldD] at h
    by_cases hc : C' = C
    · rw [if_pos hc] at h
      subst hc
      cases e : getK fs (kS f) with
      | none => rw [e] at h; exact h.elim
      | some d' => rw [e] at h; exact ⟨fl, fs, d', rfl, e, h⟩
    · rw [if_neg hc] at h; exact h.elim
  | _ => exact h.elim
theorem qe_fld {C : Addr} {f : Str} (c : Cls X.K C) (nf : NoAttr X.K C f) (he : QE X W e fa) (hb : attributeBase e f X.env (eval e X.env) = eval e X.env := by rfl) : QE X W (.Attribute e f pos) (qFld C f fa) := peI (pe_fld he hb) fun σ H R ⟨G, B, As, ρ, so, q⟩ =>
  upQ_bind so q fun d G1 H1 v e1 hd fr q1 => by
    obtain ⟨fl, fs, d', rfl, eg, q2⟩ := fldD_P q1
    obtain ⟨p, dx, vs, rfl, hp, hm⟩ := dt_obj e1.gh (so.ext e1).bh hd
    obtain ⟨v', hv', n, hd'⟩ := hm.look.1 d' eg
    exact ⟨p, C, dx, vs, v', rfl, hp, c, nf, hv', q2 G1 H1 v' e1 hd' (Fresh.of n)⟩

/-! ### slices -/
noncomputable abbrev FO := Plc → Out Exn (Option Int)
noncomputable def upQO (K : PySem.W.Frag) (W : WX) (f : FO) : TO := fun σ H R => ∃ (G B : Hp) (As : List V) (ρ : Plc), SOk K G B H As σ ρ ∧ (f ρ).P (fun i => ∀ G' H', Ext G H G' H' → R i H') (EX K W G B H σ)
noncomputable abbrev QO (X : Cx) (W : WX) (e : Option Expr) (f : FO) : Prop := PO X e (upQO X.K W f)
theorem poI {e : Option Expr} {t t' : TO} (h : PO X e t) (i : ∀ σ H R, t' σ H R → t σ H R) : PO X e t' := ⟨fun pins s σ H Q I q => h.run pins s σ H Q I (i σ H Q q)⟩
noncomputable def oNone : FO := fun _ => .ok none
noncomputable def oSome (f : FQ) : FO := fun ρ => (f ρ).bind fun d => (toI d).bind fun i => .ok (some i)
theorem qo_none : QO X W none oNone := poI po_none fun σ H R ⟨G, B, As, ρ, so, q⟩ => q G H (Ext.refl so.gh)
theorem qo_some (h : QE X W e fa) : QO X W (some e) (oSome fa) := poI (po_some h) fun σ H R ⟨G, B, As, ρ, so, q⟩ => upQ_bind so q fun d G1 H1 v e1 hd fr q1 => by
  obtain ⟨i, rfl, q2⟩ := toI_P (Out.P_bind.mp q1)
  exact ⟨i, dt_int hd, q2 G1 H1 e1⟩
structure VSl (K : PySem.W.Frag) (r : V → Option Int → Option Int → Hp → VK → Prop) (f : D → Option Int → Option Int → Out Exn D) : Prop where
  go : ∀ (G B H : Hp) (x : V) (dx : D) (lo hi : Option Int) (R : VK), Sub G H → SmN B H → Dt K G B H x dx → (f dx lo hi).P (KQ K G B H R) (fun _ => False) → r x lo hi H R
noncomputable def qSl (f : D → Option Int → Option Int → Out Exn D) (fa : FQ) (fl fh : FO) : FQ := fun ρ => (fa ρ).bind fun x => (fl ρ).bind fun l => (fh ρ).bind fun h => (f x l h).pure
theorem qe_slice {r : V → Option Int → Option Int → Hp → VK → Prop} {f : D → Option Int → Option Int → Out Exn D} {lo hi : Option Expr} {fl fh : FO} {p2 : Pos} (hr : SlR X r) (hv : VSl X.K r f) (he : QE X W e fa) (hl : QO X W lo fl) (hh : QO X W hi fh) : QE X W (.Subscript e (.Slice lo hi none p2) pos) (qSl f fa fl fh) :=
  peI (pe_slice hr he hl hh) fun σ H R ⟨G, B, As, ρ, so, q⟩ => upQ_bind so q fun d G1 H1 v e1 hd fr q1 =>
    ⟨G1, B, As, ρ, so.ext e1, Out.P_mono (Out.P_bind.mp q1) (fun l q2 G2 H2 e2 => ⟨G2, B, As, ρ, (so.ext e1).ext e2, Out.P_mono (Out.P_bind.mp q2) (fun h q3 G3 H3 e3 =>
      hv.go G3 B H3 v d l h R e3.gh (((so.ext e1).ext e2).ext e3).bh (Dt.ext (e2.trans e3) hd) (Out.P_mono (pure_P q3) (fun _ k => k.ext ((e1.trans e2).trans e3)) fun _ z => z)) fun _ z => EX.ext (e1.trans e2) z⟩) fun _ z => EX.ext e1 z⟩

/-! ### methods of texts -/
structure Vm (K : PySem.W.Frag) (r : V → List V → Hp → VK → Prop) (f : D → List D → Out Exn D) : Prop where
  go : ∀ (G B H : Hp) (x : V) (dx : D) (xs : List V) (ds : List D) (R : VK), Sub G H → SmN B H → Dt K G B H x dx → Dta K G B H xs ds → (f dx ds).P (KQ K G B H R) (fun _ => False) → r x xs H R
end
end VL

/-! VLd: operators as functions on trees. -/
namespace VL
open PySem PySem.Spec PyProof.Rows L2
variable [LamT]

theorem kq_atom {K : PySem.W.Frag} {G B H : Hp} {R : VK} {v : V} {d : D} (gh : Sub G H) (k : KQ K G B H R d) (h : Dat K G B H [] v d) (f : d.root = none) : R v H := k.given gh ⟨_, h⟩ (Fresh.of (by rw [f]; simp))
theorem kq_int {K : PySem.W.Frag} {G B H : Hp} {R : VK} {i : Int} (gh : Sub G H) (k : KQ K G B H R (.int i)) : R (.int i) H := kq_atom gh k (.int i) rfl
theorem kq_b {K : PySem.W.Frag} {G B H : Hp} {R : VK} {i : Bool} (gh : Sub G H) (k : KQ K G B H R (.bl i)) : R (.bl i) H := kq_atom gh k (.bl i) rfl
theorem kq_s {K : PySem.W.Frag} {G B H : Hp} {R : VK} {i : Str} (gh : Sub G H) (k : KQ K G B H R (.str i)) : R (.str i) H := kq_atom gh k (.str i) rfl
/-! ### numbers -/
noncomputable def mulOk (i j : Int) : Prop := (-(2 ^ 64) < i ∧ i < 2 ^ 64) ∨ (-(2 ^ 64) < j ∧ j < 2 ^ 64) ∨ (i.natAbs < 2 ^ 4000 ∧ j.natAbs < 2 ^ 4000)
noncomputable def divOk (j : Int) : Prop := 0 < j ∧ j.natAbs < 2 ^ 8000
instance (i j : Int) : Decidable (mulOk i j) := by unfold mulOk; infer_instance
instance (j : Int) : Decidable (divOk j) := by unfold divOk; infer_instance
noncomputable def mulV : D → D → Out Exn D
  | .int i, .int j => if mulOk i j then .ok (.int (i * j)) else .no
  | _, _ => .no
noncomputable def fdivV : D → D → Out Exn D
  | .int i, .int j => if divOk j then .ok (.int (i / j)) else .no
  | _, _ => .no
noncomputable def modV : D → D → Out Exn D
  | .int i, .int j => if 0 < j then .ok (.int (i % j)) else .no
  | _, _ => .no
noncomputable def ltV : D → D → Out Exn D
  | .int i, .int j => .ok (.bl (decide (i < j)))
  | .str i, .str j => .ok (.bl (decide (i.cps.toList < j.cps.toList)))
  | _, _ => .no
noncomputable def leV : D → D → Out Exn D
  | .int i, .int j => .ok (.bl (decide (i ≤ j)))
  | _, _ => .no
noncomputable def gtV : D → D → Out Exn D
  | .int i, .int j => .ok (.bl (decide (i > j)))
  | _, _ => .no
theorem out_if {α : Type} {c : Prop} [Decidable c] {a : α} {P : α → Prop} {E : Exn → Prop} (h : (if c then Out.ok a else Out.no : Out Exn α).P P E) : c ∧ P a := Out.P_if h
section
variable {K : PySem.W.Frag} {X : Cx}
theorem op_mulU : OpR X (binaryOp .Mult) (fun x y H Q => (rI CMul fun i j => .int (i * j)) x y H Q ∨ (rI CMulW fun i j => .int (i * j)) x y H Q) := op_mul.or op_mulW
theorem v_mul : V2 K (fun x y H Q => (rI CMul fun i j => .int (i * j)) x y H Q ∨ (rI CMulW fun i j => .int (i * j)) x y H Q) mulV := ⟨fun G B H x y dx dy R gh bh d1 d2 h => by
  unfold mulV at h
  split at h
  · obtain ⟨c, k⟩ := out_if h
    have e1 := dt_int d1
    have e2 := dt_int d2
    rcases c with c | c | ⟨c1, c2⟩
    · exact .inl ⟨_, _, e1, e2, .inl c, kq_int gh k⟩
    · exact .inl ⟨_, _, e1, e2, .inr c, kq_int gh k⟩
    · exact .inr ⟨_, _, e1, e2, wide_mul (a := 4000) (b := 4000) c1 c2 (by decide) (by decide) (by decide), kq_int gh k⟩
  · exact h.elim⟩
theorem v_fdiv : V2 K (rI CDivW fun i j => .int (i / j)) fdivV := ⟨fun G B H x y dx dy R gh bh d1 d2 h => by
  unfold fdivV at h
  split at h
  · obtain ⟨c, k⟩ := out_if h
    exact ⟨_, _, dt_int d1, dt_int d2, wide_div (b := 8000) c.1 c.2 (by decide) (by decide), kq_int gh k⟩
  · exact h.elim⟩
theorem v_mod : V2 K (rI (fun _ j => 0 < j) fun i j => .int (i % j)) modV := ⟨fun G B H x y dx dy R gh bh d1 d2 h => by
  unfold modV at h
  split at h
  · obtain ⟨c, k⟩ := out_if h
    exact ⟨_, _, dt_int d1, dt_int d2, c, kq_int gh k⟩
  · exact h.elim⟩
theorem op_ltU : OpR X (compareOp .Lt) (fun x y H Q => (rI0 fun i j => .bl (decide (i < j))) x y H Q ∨ ∃ i j, x = .str i ∧ y = .str j ∧ Q (.bl (decide (i.cps.toList < j.cps.toList))) H) := op_lt.or op_lt_str
theorem v_lt : V2 K (fun x y H Q => (rI0 fun i j => .bl (decide (i < j))) x y H Q ∨ ∃ i j, x = .str i ∧ y = .str j ∧ Q (.bl (decide (i.cps.toList < j.cps.toList))) H) ltV := ⟨fun G B H x y dx dy R gh bh d1 d2 h => by
  unfold ltV at h
  split at h
  · exact .inl ⟨_, _, dt_int d1, dt_int d2, kq_b gh h⟩
  · exact .inr ⟨_, _, dt_str d1, dt_str d2, kq_b gh h⟩
  · exact h.elim⟩
theorem v_le : V2 K (rI0 fun i j => .bl (decide (i ≤ j))) leV := ⟨fun G B H x y dx dy R gh bh d1 d2 h => by
  unfold leV at h
  split at h
  · exact ⟨_, _, dt_int d1, dt_int d2, kq_b gh h⟩
  · exact h.elim⟩
theorem v_gt : V2 K (rI0 fun i j => .bl (decide (i > j))) gtV := ⟨fun G B H x y dx dy R gh bh d1 d2 h => by
  unfold gtV at h
  split at h
  · exact ⟨_, _, dt_int d1, dt_int d2, kq_b gh h⟩
  · exact h.elim⟩
/-! ### + -/
noncomputable def catL (f g : Fl) (xs ys : List D) : Out Exn D := if f ≠ .loc ∧ g ≠ .loc ∧ xs.length + ys.length ≤ sizeLine then .ok (.lst .new (xs ++ ys)) else .no
noncomputable def addV : D → D → Out Exn D
  | .int i, .int j => .ok (.int (i + j))
  | .str i, .str j => if i.length + j.length ≤ sizeLine then .ok (.str (i ++ j)) else .no
  | .lst f xs, .lst g ys => catL f g xs ys
  | .tup xs, .tup ys => if xs.length + ys.length ≤ sizeLine then .ok (.tup (xs ++ ys)) else .no
  | _, _ => .no

noncomputable abbrev rAddU (K : PySem.W.Frag) : R2 := fun x y H Q => (rI0 fun i j => .int (i + j)) x y H Q ∨ (∃ i j, x = .str i ∧ y = .str j ∧ i.length + j.length ≤ sizeLine ∧ Q (.str (i ++ j)) H) ∨ rCat x y H Q ∨ rCatA K x y H Q
theorem op_addU : OpR X (binaryOp .Add) (rAddU X.K) := op_add.or (op_add_str.or (op_cat.or op_catA))
theorem v_add : V2 K (rAddU K) addV := ⟨fun G B H x y dx dy R gh bh d1 d2 h => by
  unfold addV at h
  split at h
  · exact .inl ⟨_, _, dt_int d1, dt_int d2, kq_int gh h⟩
  · obtain ⟨c, k⟩ := out_if h
    exact .inr (.inl ⟨_, _, dt_str d1, dt_str d2, c, kq_s gh k⟩)
  · obtain ⟨⟨c1, c2, c3⟩, k⟩ := out_if h
    obtain ⟨p, vs, rfl, hp, hs⟩ := dt_lstX gh bh c1 d1
    obtain ⟨q, ws, rfl, hq, ht⟩ := dt_lstX gh bh c2 d2
    exact .inr (.inr (.inl ⟨p, q, vs, ws, rfl, rfl, hp, hq, by rw [hs.length, ht.length]; exact c3, fun r hr => KQ.floorL gh hr (hs.append ht) k⟩))
  · obtain ⟨c, k⟩ := out_if h
    obtain ⟨p, vs, rfl, hp, hp2, hs⟩ := dt_tup gh d1
    obtain ⟨q, ws, rfl, hq, hq2, ht⟩ := dt_tup gh d2
    refine .inr (.inr (.inr ⟨p, q, vs, ws, rfl, rfl, hp, hq, by rw [hs.length, ht.length]; exact c, fun e => ?_, fun _ e => ?_, fun _ _ r hr => KQ.floorT gh hr (hs.append ht) k⟩))
    · subst e
      have e2 := List.eq_nil_of_length_eq_zero hs.length.symm
      rw [e2, List.nil_append] at k
      exact k.given gh d2 (Fresh.of (by simp [D.root]))
    · subst e
      have e2 := List.eq_nil_of_length_eq_zero ht.length.symm
      rw [e2, List.append_nil] at k
      exact k.given gh d1 (Fresh.of (by simp [D.root]))
  · exact h.elim⟩

/-! ### data as trees: equality -/
mutual
noncomputable def D.pd : D → PyData
  | .bl b => .bool b
  | .int i => .int i
  | .str x => .str x
  | .tup xs => .tuple (D.pdL xs)
  | .tuk xs => .tuple (D.pdL xs)
  | .lst _ xs => .list (D.pdL xs)
  | _ => .none
noncomputable def D.pdL : List D → List PyData
  | [] => []
  | d :: ds => D.pd d :: D.pdL ds
end
mutual
/-- data of depth n at most -/
noncomputable def D.ok : Nat → D → Bool
  | _, .non => true
  | _, .bl _ => true
  | _, .int _ => true
  | _, .str x => PyData.strOk x
  | n + 1, .tup xs => D.okL n xs
  | n + 1, .tuk xs => D.okL n xs
  | n + 1, .lst _ xs => D.okL n xs
  | _, _ => false
noncomputable def D.okL : Nat → List D → Bool
  | _, [] => true
  | n, d :: ds => D.ok n d && D.okL n ds
end
mutual
theorem ok_shape : ∀ (n : Nat) (d : D), D.ok n d = true → (D.pd d).canLay0 = true ∧ (D.pd d).depth ≤ n
  | n, .non, _ => by simp [D.pd, PyData.canLay0, PyData.depth]
  | n, .bl b, _ => by simp [D.pd, PyData.canLay0, PyData.depth]
  | n, .int i, _ => by simp [D.pd, PyData.canLay0, PyData.depth]
  | n, .str x, h => by
    have h' : PyData.strOk x = true := by cases n <;> simpa [D.ok] using h
    simp [D.pd, PyData.canLay0, PyData.depth, h']
  | n + 1, .tup xs, h => by
    obtain ⟨h1, h2⟩ := okL_shape n xs (by simpa [D.ok] using h)
    simp [D.pd, PyData.canLay0, PyData.depth, h1]; omega
  | n + 1, .tuk xs, h => by
    obtain ⟨h1, h2⟩ := okL_shape n xs (by simpa [D.ok] using h)
    simp [D.pd, PyData.canLay0, PyData.depth, h1]; omega
  | n + 1, .lst _ xs, h => by
    obtain ⟨h1, h2⟩ := okL_shape n xs (by simpa [D.ok] using h)
    simp [D.pd, PyData.canLay0, PyData.depth, h1]; omega
  | 0, .tup xs, h => by simp [D.ok] at h
  | 0, .tuk xs, h => by simp [D.ok] at h
  | 0, .lst _ xs, h => by simp [D.ok] at h
  | n, .ty _, h => by cases n <;> simp [D.ok] at h
  | n, .ref _, h => by cases n <;> simp [D.ok] at h
  | n, .dic _ _, h => by cases n <;> simp [D.ok] at h
  | n, .dit _ _, h => by cases n <;> simp [D.ok] at h
  | n, .din _ _, h => by cases n <;> simp [D.ok] at h
  | n, .obj _ _ _, h => by cases n <;> simp [D.ok] at h
theorem okL_shape : ∀ (n : Nat) (ds : List D), D.okL n ds = true → PyData.canLayAll0 (D.pdL ds) = true ∧ PyData.depthAll (D.pdL ds) ≤ n
  | n, [], _ => by simp [D.pdL, PyData.canLayAll0, PyData.depthAll]
  | n, d :: ds, h => by
    rw [D.okL, Bool.and_eq_true] at h
    obtain ⟨h1, h2⟩ := ok_shape n d h.1
    obtain ⟨h3, h4⟩ := okL_shape n ds h.2
    simp [D.pdL, PyData.canLayAll0, PyData.depthAll, h1, h3]; omega
end
theorem ok_shaped {d : D} (h : D.ok 64 d = true) : SeqAt.shaped (D.pd d) = true := by
  obtain ⟨h1, h2⟩ := ok_shape 64 d h
  unfold SeqAt.shaped
  rw [h1, decide_eq_true h2] <;> rfl
mutual
theorem dat_dp {G B H : Hp} (s : Sub G H) (b : SmN B H) : ∀ {n : Nat} {S : List Addr} {v : V} {d : D}, D.ok n d = true → Dat K G B H S v d → Dp K H v (D.pd d)
  | _, _, _, _, _, .non => .non
  | _, _, _, _, _, .bl b => .bl b
  | _, _, _, _, _, .int i => .int i
  | _, _, _, _, _, .str x => .str x
  | n + 1, _, _, _, h, .tup hT hs => .tup (s.n.sqT hT.sq) (dats_dp s b (n := n) (by simpa [D.ok] using h) hs)
  | n + 1, _, _, _, h, .tuk hT hs => .tup (s.n.sqT hT) (dats_dp s b (n := n) (by simpa [D.ok] using h) hs)
  | n + 1, _, _, _, h, .lst hT hs => .lst (SqL.of (Nd.here s b hT)) (dats_dp s b (n := n) (by simpa [D.ok] using h) hs)
  | n + 1, _, _, _, h, .lok hT hs => .lst (hT.elim b.seq s.seq) (dats_dp s b (n := n) (by simpa [D.ok] using h) hs)
  | 0, _, _, _, h, .tup hT hs => by simp [D.ok] at h
  | 0, _, _, _, h, .tuk hT hs => by simp [D.ok] at h
  | 0, _, _, _, h, .lst hT hs => by simp [D.ok] at h
  | 0, _, _, _, h, .lok hT hs => by simp [D.ok] at h
  | n, _, _, _, h, .ty _ => by cases n <;> simp [D.ok] at h
  | n, _, _, _, h, .ref _ => by cases n <;> simp [D.ok] at h
  | n, _, _, _, h, .dic _ _ => by cases n <;> simp [D.ok] at h
  | n, _, _, _, h, .dit _ _ => by cases n <;> simp [D.ok] at h
  | n, _, _, _, h, .din _ _ _ _ => by cases n <;> simp [D.ok] at h
  | n, _, _, _, h, .obj _ _ => by cases n <;> simp [D.ok] at h
theorem dats_dp {G B H : Hp} (s : Sub G H) (b : SmN B H) : ∀ {n : Nat} {S : List Addr} {v : List V} {d : List D}, D.okL n d = true → Dats K G B H S v d → DpAll K H v (D.pdL d)
  | _, _, _, _, _, .nil => .nil
  | n, _, _, _, h, .cons _ h1 t => by
    rw [D.okL, Bool.and_eq_true] at h
    exact .cons (dat_dp s b h.1 h1) (dats_dp s b h.2 t)
end
noncomputable def flatD : D → Option V
  | .non => some .non
  | .bl b => some (.bl b)
  | .int i => some (.int i)
  | .str x => some (.str x)
  | _ => none
noncomputable def flatDs : List D → Option (List V)
  | [] => some []
  | d :: ds => match flatD d, flatDs ds with
    | some v, some vs => some (v :: vs)
    | _, _ => none
theorem flat_dt {G B H : Hp} {v u : V} {d : D} (h : Dt K G B H v d) (e : flatD d = some u) : v = u ∧ flatV v = true := by
  obtain ⟨_, h⟩ := h
  cases h <;> cases e <;> exact ⟨rfl, rfl⟩
theorem flats_dt {G B H : Hp} : ∀ {vs us : List V} {ds : List D}, Dts K G B H vs ds → flatDs ds = some us → vs = us ∧ vs.all flatV = true
  | [], us, [], _, e => by cases e; exact ⟨rfl, rfl⟩
  | [], _, _ :: _, h, _ => by have := h.length; simp at this
  | _ :: _, _, [], h, _ => by have := h.length; simp at this
  | v :: vs, us, d :: ds, h, e => by
    obtain ⟨_, h, t⟩ := h.uncons
    unfold flatDs at e
    cases e1 : flatD d with
    | none => rw [e1] at e; cases e
    | some v' =>
      cases e2 : flatDs ds with
      | none => rw [e1, e2] at e; cases e
      | some vs' =>
        rw [e1, e2] at e
        cases e
        obtain ⟨rfl, f1⟩ := flat_dt h e1
        obtain ⟨rfl, f2⟩ := flats_dt t e2
        exact ⟨rfl, by rw [List.all_cons, f1, f2] <;> rfl⟩
/-- == of trees -/
noncomputable def deq (x y : D) : Bool := PyData.eqv (D.pd x) (D.pd y)
noncomputable def deqL (x y : List D) : Bool := PyData.eqvAll (D.pdL x) (D.pdL y)
/-! ### == of dicts -/
section
variable {K : PySem.W.Frag} {G B H : Hp}
theorem Dtm.valK {k : Key} : ∀ {vs : List (Key × V)} {ds : List (Kd × D)}, Dtm K G B H (vs.map kK) ds → (getK ds (.k k) = none → valV vs k = none) ∧ ∀ d, getK ds (.k k) = some d → ∃ v, valV vs k = some v ∧ d.old ∧ Dt K G B H v d
  | [], [], _ => ⟨fun _ => rfl, fun d e => nomatch e⟩
  | [], _ :: _, h => by have := h.length; simp at this
  | _ :: _, [], h => by have := h.length; simp at this
  | (k0, v) :: vs, (k', d) :: ds, h => by
    obtain ⟨rfl, n, h1, h2⟩ := Dtm.uncons (k := .k k0) (v := v) (vs := vs.map kK) h
    obtain ⟨i1, i2⟩ := Dtm.valK (k := k) h2
    by_cases e : k0 = k
    · subst e
      rw [getK, if_pos rfl, valV_pos rfl]
      exact ⟨fun z => (nomatch z), fun d' z => by cases z; exact ⟨_, rfl, n, h1⟩⟩
    · rw [getK, if_neg (by simpa using e), valV_neg e]
      exact ⟨i1, i2⟩
end
noncomputable def hitD (ls : List (Kd × D)) (e : Kd × D) : Bool := match getK ls e.1 with
  | some u => deq e.2 u
  | none => false
noncomputable def okK (ks : List (Kd × D)) : Bool := ks.all fun e => D.ok 62 e.2
noncomputable def dicEq (ks ls : List (Kd × D)) : Bool := ks.length == ls.length && ks.all (hitD ls)
theorem okK_at {k : Kd} {d : D} : ∀ {ls : List (Kd × D)}, okK ls = true → getK ls k = some d → D.ok 62 d = true
  | [], _, e => nomatch e
  | (k', d') :: ls, h, e => by
    unfold okK at h
    rw [List.all_cons, Bool.and_eq_true] at h
    rw [getK] at e
    by_cases q : k' = k
    · rw [if_pos q] at e; cases e; exact h.1
    · rw [if_neg q] at e; exact okK_at h.2 e
theorem hits_dt {X : Cx} {pins : List (Addr × Obj)} {σ : L2.St} {H : Hp} {s : Shared} (I : Inv X pins σ H s) (hu : X.A.units + 64 < cLine) {G B : Hp} (gh : Sub G H) (bh : SmN B H) {wl : List (Key × V)} {ls : List (Kd × D)} {vb : List (Key × Value)} (rb : KV wl vb) (hl : Dtm X.K G B H (wl.map kK) ls) (ol : okK ls = true) :
    ∀ {wk : List (Key × V)} {ks : List (Kd × D)} {va : List (Key × Value)}, KV wk va → Dtm X.K G B H (wk.map kK) ks → okK ks = true → PySem.W.KeqHits X.A.in1 s vb va (ks.all (hitD ls))
  | [], [], _, ra, _, _ => by cases ra; exact .nil
  | [], _ :: _, _, _, h, _ => by have := h.length; simp at this
  | _ :: _, [], _, _, h, _ => by have := h.length; simp at this
  | (k, v) :: wk, (k', d) :: ks, _, ra, h, ok => by
    cases ra with
    | cons ra1 ra2 =>
      rename_i q va
      obtain ⟨k2, u⟩ := q
      obtain ⟨e1, rv⟩ := ra1
      obtain rfl : k = k2 := e1
      obtain ⟨rfl, n, h1, h2⟩ := Dtm.uncons (k := .k k) (v := v) (vs := wk.map kK) h
      unfold okK at ok
      rw [List.all_cons, Bool.and_eq_true] at ok
      obtain ⟨i1, i2⟩ := hl.valK (k := k)
      have r := rb.val k
      have ih := hits_dt I hu gh bh rb hl ol (wk := wk) (ks := ks) ra2 h2 ok.2
      rw [List.all_cons]
      cases e : getK ls (.k k) with
      | none =>
        rw [show hitD ls (.k k, d) = false by unfold hitD; rw [e], Bool.false_and]
        rw [i1 e] at r
        exact .miss r.none_of
      | some d2 =>
        rw [show hitD ls (.k k, d) = deq d d2 by unfold hitD; rw [e]]
        obtain ⟨w, ew, _, hw⟩ := i2 d2 e
        rw [ew] at r
        obtain ⟨y, ey, ry⟩ := r.some_of
        have o1 := ok.1
        have o2 := okK_at ol e
        obtain ⟨_, h1⟩ := h1
        obtain ⟨_, hw⟩ := hw
        obtain ⟨as, q1⟩ := Dp.reads I _ _ _ (dat_dp gh bh o1 h1) rv
        obtain ⟨bs, q2⟩ := Dp.reads I _ _ _ (dat_dp gh bh o2 hw) ry
        obtain ⟨c1, t1⟩ := ok_shape 62 _ o1
        obtain ⟨c2, t2⟩ := ok_shape 62 _ o2
        exact .hit ey (SeqAt.eqAt_reads _ _ X.A.in1 s _ _ as bs q1 q2 c1 c2 (by show X.A.units + 1 + _ < cLine; have := Nat.min_le_left (D.pd d).depth (D.pd d2).depth; omega)) ih
noncomputable abbrev rDq (K : PySem.W.Frag) (neg : Bool) : R2 := fun x y H Q => ∃ (G B : Hp) (f g : Fl) (ks ls : List (Kd × D)), Sub G H ∧ SmN B H ∧ Dt K G B H x (.dic f ks) ∧ Dt K G B H y (.dic g ls) ∧ okK ks = true ∧ okK ls = true ∧ Q (.bl (if neg = true then !dicEq ks ls else dicEq ks ls)) H
theorem op_eqK {X : Cx} (hu : X.A.units + 64 < cLine) : OpR X (compareOp .Eq) (rDq X.K false) := by
  intro pins s σ H x y v u Q I rx ry h
  obtain ⟨G, B, f, g, ks, ls, gh, bh, d1, d2, o1, o2, q⟩ := h
  obtain ⟨a, wk, rfl, r1, m1⟩ := dt_dic gh bh d1
  obtain ⟨b, wl, rfl, r2, m2⟩ := dt_dic gh bh d2
  obtain rfl : v = Value.ref a := rx
  obtain rfl : u = Value.ref b := ry
  obtain ⟨_, ya, va, ra, da⟩ := (show ObjOk X.prog X.w H s.heap a (.dK wk) from r1.ok I.hok)
  obtain ⟨_, yb, vb, rb, db⟩ := (show ObjOk X.prog X.w H s.heap b (.dK wl) from r2.ok I.hok)
  refine PySem.W.keq_eq (knd := mixKind X.prog X.w) (r := ks.all (hitD ls)) ya yb da db (by omega) (fun _ => hits_dt I hu gh bh rb m2 o2 ra m1 o1) ?_
  have e1 : va.length = ks.length := by rw [← ra.length, ← m1.length, List.length_map]
  have e2 : vb.length = ls.length := by rw [← rb.length, ← m2.length, List.length_map]
  rw [e1, e2]
  exact ⟨.bl _, H, I, rfl, q⟩
theorem op_neK {X : Cx} (hu : X.A.units + 64 < cLine) : OpR X (compareOp .NotEq) (rDq X.K true) := by
  intro pins s σ H x y v u Q I rx ry h
  obtain ⟨G, B, f, g, ks, ls, gh, bh, d1, d2, o1, o2, q⟩ := h
  obtain ⟨a, wk, rfl, r1, m1⟩ := dt_dic gh bh d1
  obtain ⟨b, wl, rfl, r2, m2⟩ := dt_dic gh bh d2
  obtain rfl : v = Value.ref a := rx
  obtain rfl : u = Value.ref b := ry
  obtain ⟨_, ya, va, ra, da⟩ := (show ObjOk X.prog X.w H s.heap a (.dK wk) from r1.ok I.hok)
  obtain ⟨_, yb, vb, rb, db⟩ := (show ObjOk X.prog X.w H s.heap b (.dK wl) from r2.ok I.hok)
  refine PySem.W.keq_ne (knd := mixKind X.prog X.w) (r := ks.all (hitD ls)) ya yb da db (by omega) (fun _ => hits_dt I hu gh bh rb m2 o2 ra m1 o1) ?_
  have e1 : va.length = ks.length := by rw [← ra.length, ← m1.length, List.length_map]
  have e2 : vb.length = ls.length := by rw [← rb.length, ← m2.length, List.length_map]
  rw [e1, e2]
  exact ⟨.bl _, H, I, rfl, q⟩
/-- x == y: plain things by their kinds, data through and through -/
noncomputable def eqB (x y : D) : Option Bool := match x, y with
  | .int i, .int j => some (decide (i = j))
  | .str i, .str j => some (decide (i = j))
  | .bl i, .bl j => some (decide (i = j))
  | .non, .non => some true
  | .dic _ ks, .dic _ ls => if okK ks = true ∧ okK ls = true then some (dicEq ks ls) else none
  | x, y => match flatD x, flatD y with
    | some u, some v => if scal u v = true then some (decide (u = v)) else if D.ok 64 x = true ∧ D.ok 64 y = true then some (deq x y) else none
    | _, _ => if D.ok 64 x = true ∧ D.ok 64 y = true then some (deq x y) else none
noncomputable def outB (neg : Bool) (o : Option Bool) : Out Exn D := match o with
  | some b => .ok (.bl (if neg = true then !b else b))
  | none => .no
noncomputable def eqV (x y : D) : Out Exn D := outB false (eqB x y)
noncomputable def neV (x y : D) : Out Exn D := outB true (eqB x y)
theorem eqB_rd {G B H : Hp} {x y : V} {dx dy : D} {b : Bool} (gh : Sub G H) (bh : SmN B H) (d1 : Dt K G B H x dx) (d2 : Dt K G B H y dy) (h : eqB dx dy = some b) :
    (scal x y = true ∧ b = decide (x = y)) ∨ (∃ d e, Dp K H x d ∧ Dp K H y e ∧ SeqAt.shaped d = true ∧ SeqAt.shaped e = true ∧ b = PyData.eqv d e) ∨ ∃ f g ks ls, dx = .dic f ks ∧ dy = .dic g ls ∧ okK ks = true ∧ okK ls = true ∧ b = dicEq ks ls := by
  have deep : ∀ {dx dy : D}, Dt K G B H x dx → Dt K G B H y dy → (if D.ok 64 dx = true ∧ D.ok 64 dy = true then some (deq dx dy) else none) = some b →
      ∃ d e, Dp K H x d ∧ Dp K H y e ∧ SeqAt.shaped d = true ∧ SeqAt.shaped e = true ∧ b = PyData.eqv d e := fun {dx dy} d1 d2 h => by
    by_cases hc : D.ok 64 dx = true ∧ D.ok 64 dy = true
    · rw [if_pos hc] at h
      cases h
      obtain ⟨_, d1⟩ := d1
      obtain ⟨_, d2⟩ := d2
      exact ⟨_, _, dat_dp gh bh hc.1 d1, dat_dp gh bh hc.2 d2, ok_shaped hc.1, ok_shaped hc.2, rfl⟩
    · rw [if_neg hc] at h; cases h
  unfold eqB at h
  split at h
  · cases h; rw [dt_int d1, dt_int d2]; exact .inl ⟨rfl, by simp⟩
  · cases h; rw [dt_str d1, dt_str d2]; exact .inl ⟨rfl, by simp⟩
  · cases h; rw [dt_bl d1, dt_bl d2]; exact .inl ⟨rfl, by simp⟩
  · cases h; rw [dt_non d1, dt_non d2]; exact .inl ⟨rfl, by simp⟩
  · rename_i f ks g ls
    by_cases hc : okK ks = true ∧ okK ls = true
    · rw [if_pos hc] at h
      cases h
      exact .inr (.inr ⟨f, g, ks, ls, rfl, rfl, hc.1, hc.2, rfl⟩)
    · rw [if_neg hc] at h; cases h
  · split at h
    · rename_i u v e1 e2
      by_cases hs : scal u v = true
      · rw [if_pos hs] at h
        cases h
        obtain ⟨rfl, _⟩ := flat_dt d1 e1
        obtain ⟨rfl, _⟩ := flat_dt d2 e2
        exact .inl ⟨hs, rfl⟩
      · rw [if_neg hs] at h
        exact .inr (.inl (deep d1 d2 h))
    · exact .inr (.inl (deep d1 d2 h))
theorem outB_P {neg : Bool} {o : Option Bool} {P : D → Prop} {E : Exn → Prop} (h : (outB neg o).P P E) : ∃ b, o = some b ∧ P (.bl (if neg = true then !b else b)) := by
  cases o with
  | none => exact h.elim
  | some b => exact ⟨b, rfl, h⟩
noncomputable abbrev rEqU (K : PySem.W.Frag) : R2 := fun x y H Q => (rEq x y H Q ∨ rEqD K x y H Q) ∨ rDq K false x y H Q
noncomputable abbrev rNeU (K : PySem.W.Frag) : R2 := fun x y H Q => (rNe x y H Q ∨ rNeD K x y H Q) ∨ rDq K true x y H Q
theorem op_eqU (hu : X.A.units + 64 < cLine) : OpR X (compareOp .Eq) (rEqU X.K) := (op_eq.or (op_eqD hu)).or (op_eqK hu)
theorem op_neU (hu : X.A.units + 64 < cLine) : OpR X (compareOp .NotEq) (rNeU X.K) := (op_ne.or (op_neD hu)).or (op_neK hu)
theorem v_eq : V2 K (rEqU K) eqV := ⟨fun G B H x y dx dy R gh bh d1 d2 h => by
  obtain ⟨b, e, k⟩ := outB_P h
  rcases eqB_rd gh bh d1 d2 e with ⟨h1, h2⟩ | ⟨d, d', h1, h2, h3, h4, h5⟩ | ⟨f, g, ks, ls, rfl, rfl, o1, o2, rfl⟩
  · exact .inl (.inl ⟨h1, by rw [← h2]; exact kq_b gh (by simpa using k)⟩)
  · exact .inl (.inr ⟨d, d', h1, h2, h3, h4, by rw [← h5]; exact kq_b gh (by simpa using k)⟩)
  · exact .inr ⟨G, B, f, g, ks, ls, gh, bh, d1, d2, o1, o2, kq_b gh k⟩⟩
theorem v_ne : V2 K (rNeU K) neV := ⟨fun G B H x y dx dy R gh bh d1 d2 h => by
  obtain ⟨b, e, k⟩ := outB_P h
  rcases eqB_rd gh bh d1 d2 e with ⟨h1, h2⟩ | ⟨d, d', h1, h2, h3, h4, h5⟩ | ⟨f, g, ks, ls, rfl, rfl, o1, o2, rfl⟩
  · exact .inl (.inl ⟨h1, by rw [← h2]; exact kq_b gh (by simpa using k)⟩)
  · exact .inl (.inr ⟨d, d', h1, h2, h3, h4, by rw [← h5]; exact kq_b gh (by simpa using k)⟩)
  · exact .inr ⟨G, B, f, g, ks, ls, gh, bh, d1, d2, o1, o2, kq_b gh k⟩⟩
end
end VL

/-! DLs: sets of tuples, whatever plain things the tuples hold. -/
namespace VL
namespace SG
open PySem PySem.Spec PyProof.Rows L2
variable {P : Program} {w : World} {κ : Type} [DecidableEq κ]
/-- plain things answer two small questions at once -/
structure Calm (kd : KeyKind P w κ) : Prop where
  st : ∀ (n : Nat) (k : κ) (v : Value), kd.is k v = true → ofAClassStatement n v = pure false
  bv : ∀ (n : Nat) (k : κ) (v : Value), kd.is k v = true → ∃ r, hashByValue n v = pure r
noncomputable abbrev Tp (kd : KeyKind P w κ) (h : Heap) (k : List κ) (b : Addr) : Prop := IsTupleKey kd h k b
noncomputable abbrev hsh (kd : KeyKind P w κ) (k : List κ) : Int := tupleKeyHash kd k
noncomputable abbrev prb (m : Nat) (g : Int) (c : Nat) : SetTable.Probe := nth m (runAt m (SetTable.bits g % (m + 1)) (SetTable.bits g)) c
theorem prb_add (m : Nat) (g : Int) (c q : Nat) : nth m (prb m g c) q = prb m g (c + q) := (nth_add m c _ q).symm
theorem nth_dummy (m : Nat) : ∀ (n : Nat) (p : SetTable.Probe), p.dummy = none → (nth m p n).dummy = none
  | 0, _, h => h
  | n + 1, p, h => nth_dummy m n (adv m p) (by unfold adv; split <;> exact h)
/-- the entries of a set that holds the tuples L -/
noncomputable def ent (kd : KeyKind P w κ) (L : List (Addr × List κ)) : List (Int × Value) := L.map fun e => (hsh kd e.2, .ref e.1)
structure St (kd : KeyKind P w κ) (h : Heap) (a : Addr) (L : List (Addr × List κ)) (es : Array (Int × Value)) (ep : Nat) (t : SetTable) : Prop where
  obj : ∃ o, h.get? a = some o ∧ o.ExactSet ∧ o.data = .set es ep t
  lst : es.toList = ent kd L
  tab : TabOk t (L.map fun e => hsh kd e.2)
  inj : (L.map Prod.snd).Nodup
  mem : ∀ e ∈ L, Tp kd h e.2 e.1
  cal : w.params.followText "set-order" = true ∨ t.led = true
  cap : L.length * 5 < t.mask * 3 ∧ L.length < 64
section
variable {kd : KeyKind P w κ} {A : Around} {E : Value → Shared → Prop} {s : Shared}
theorem ent_size {L : List (Addr × List κ)} {es : Array (Int × Value)} (h : es.toList = ent kd L) : es.size = L.length := by
  rw [← Array.length_toList, h, ent, List.length_map]
theorem ent_get {L : List (Addr × List κ)} {es : Array (Int × Value)} (h : es.toList = ent kd L) {i : Nat} {e : Addr × List κ} (he : L[i]? = some e) : es[i]? = some (hsh kd e.2, .ref e.1) := by
  rw [← Array.getElem?_toList, h, ent, List.getElem?_map, he]; rfl
theorem St.sizes {a : Addr} {L : List (Addr × List κ)} {es : Array (Int × Value)} {ep : Nat} {t : SetTable} (S : St kd s.heap a L es ep t) : t.place.size = L.length := by
  have := S.tab.sz
  rwa [List.length_map] at this
theorem St.fits {a : Addr} {L : List (Addr × List κ)} {es : Array (Int × Value)} {ep : Nat} {t : SetTable} (S : St kd s.heap a L es ep t) : t.fits es.size = true := by
  have q1 := S.sizes
  have q2 := ent_size S.lst
  have q3 := S.cap.1
  unfold SetTable.fits SetTable.fill
  rw [S.tab.dm, Bool.and_eq_true, beq_iff_eq, decide_eq_true_eq]
  exact ⟨by omega, by show t.place.size + 0 ≤ t.mask; omega⟩
/-- whatever asks each item of a tuple -/
theorem items_ask {ks : List κ} {vs : List Value} (h : ItemsAre kd ks vs) : ∀ v ∈ vs, ∃ k, kd.is k v = true := by
  induction h with
  | nil => exact fun v hv => nomatch hv
  | cons h1 _ ih =>
    intro v hv
    cases hv with
    | head => exact ⟨_, h1⟩
    | tail _ hv => exact ih v hv
theorem st_tup (cm : Calm kd) {k : List κ} {b : Addr} {Q : Bool → Shared → Prop} (hk : Tp kd s.heap k b) (h : Q false s) : wpAny (model P w) A (ofAClassStatement 8 (.ref b)) Q E s := by
  have ty := hk.typeIs
  obtain ⟨o, its, n, get, _, dat, are⟩ := hk
  unfold ofAClassStatement
  refine wpAny_bind (wpAny_typeOf ty ?_)
  dsimp only
  simp only [show (("tuple" : String) == "tuple") = true by decide, if_true, Bool.not_true, Bool.false_eq_true, if_false]
  try refine wpAny_bind (wpAny_pure ?_)
  try simp only [Bool.not_true, Bool.false_eq_true, if_false]
  show wpAny _ _ (seqItems? (.ref b) >>= _) _ _ s
  refine wpAny_bind (wpAny_seqItems get dat ?_)
  dsimp only
  refine wpAny_bind ?_
  show wpAny _ _ (forIn its _ _) _ _ s
  rw [← Array.forIn_toList]
  refine wpAny_forIn_list _ (fun left r z => (r.1 = none ∧ z = s) ∧ ∀ v ∈ left, ∃ k, kd.is k v = true) _ (fun v left r z ⟨⟨r1, r2⟩, q⟩ => ?_) (fun r z ⟨⟨r1, r2⟩, q⟩ => ?_) _ _ ⟨⟨rfl, rfl⟩, items_ask are⟩
  · obtain ⟨k, hk⟩ := q v (List.mem_cons_self ..)
    rw [cm.st _ k v hk]
    refine wpAny_bind (wpAny_pure ?_)
    simp only [Bool.false_eq_true, if_false]
    exact wpAny_pure ⟨⟨rfl, r2⟩, fun u hu => q u (List.mem_cons_of_mem _ hu)⟩
  · obtain ⟨x, y⟩ := r
    simp only at r1
    subst r1 r2
    exact wpAny_pure h
theorem bv_tup (cm : Calm kd) {k : List κ} {b : Addr} {Q : Bool → Shared → Prop} (hk : Tp kd s.heap k b) (h : ∀ r, Q r s) : wpAny (model P w) A (hashByValue 8 (.ref b)) Q E s := by
  have ty := hk.typeIs
  obtain ⟨o, its, n, get, _, dat, are⟩ := hk
  unfold hashByValue
  refine wpAny_bind (wpAny_specialOf ty F.slot_tuple_hash.lookup ?_)
  show wpAny _ _ (seqItems? (.ref b) >>= _) _ _ s
  refine wpAny_bind (wpAny_seqItems get dat ?_)
  refine wpAny_bind ?_
  show wpAny _ _ (forIn its _ _) _ _ s
  rw [← Array.forIn_toList]
  refine wpAny_forIn_list _ (fun left r z => (r.1 = none ∧ z = s) ∧ ∀ v ∈ left, ∃ k, kd.is k v = true) _ (fun v left r z ⟨⟨r1, r2⟩, q⟩ => ?_) (fun r z ⟨⟨r1, r2⟩, q⟩ => ?_) _ _ ⟨⟨rfl, rfl⟩, items_ask are⟩
  · obtain ⟨k, hk⟩ := q v (List.mem_cons_self ..)
    obtain ⟨r0, e⟩ := cm.bv _ k v hk
    rw [e]
    subst r2
    refine wpAny_bind (wpAny_pure ?_)
    cases r0 with
    | true =>
      simp only [Bool.not_true, Bool.false_eq_true, if_false]
      exact wpAny_pure ⟨⟨rfl, rfl⟩, fun u hu => q u (List.mem_cons_of_mem _ hu)⟩
    | false =>
      simp only [Bool.not_false, if_true]
      exact wpAny_pure (wpAny_pure (h false))
  · obtain ⟨x, y⟩ := r
    simp only at r1
    subst r1 r2
    exact wpAny_pure (h true)
theorem see_tup (cm : Calm kd) {k : List κ} {b : Addr} {Q : Bool → Shared → Prop} (hk : Tp kd s.heap k b) {ys : List Value} (hy : ∀ y ∈ ys, ∃ k' c, y = Value.ref c ∧ Tp kd s.heap k' c) (h : Q false s) :
    wpAny (model P w) A (searchCouldBeSeen (.ref b) ys) Q E s := by
  unfold searchCouldBeSeen
  refine wpAny_bind (wpAny_forIn_list _ (fun left r z => (r.1 = none ∧ z = s) ∧ ∀ y ∈ left, ∃ k' c, y = Value.ref c ∧ Tp kd s.heap k' c) _ (fun v left r z ⟨⟨r1, r2⟩, q⟩ => ?_) (fun r z ⟨⟨r1, r2⟩, q⟩ => ?_) _ _ ⟨⟨rfl, rfl⟩, hy⟩)
  · subst r2
    obtain ⟨k', c, e, hc⟩ := q v (List.mem_cons_self ..)
    subst e
    have on : ∀ y ∈ left, ∃ k' c, y = Value.ref c ∧ Tp kd z.heap k' c := fun u hu => q u (List.mem_cons_of_mem _ hu)
    dsimp only
    by_cases same : (b == c || (carriedByValue (.ref b) && carriedByValue (.ref c))) = true
    · exact wp_if_pos same (wpAny_pure ⟨⟨rfl, rfl⟩, on⟩)
    · refine wp_if_neg same (wpAny_bind (wpAny_eqIsQuiet_tuple hk ?_))
      simp only [Bool.not_true, Bool.false_eq_true, if_false]
      refine wpAny_bind (wpAny_eqIsQuiet_tuple hc ?_)
      simp only [Bool.not_true, Bool.false_eq_true, if_false]
      refine wpAny_bind (st_tup cm hk ?_)
      simp only [Bool.false_eq_true, if_false]
      refine wpAny_bind (st_tup cm hc ?_)
      simp only [Bool.false_eq_true, if_false]
      exact wpAny_pure ⟨⟨rfl, rfl⟩, on⟩
  · obtain ⟨x, y⟩ := r
    simp only at r1
    subst r1 r2
    exact wpAny_pure h
/-! ### seeking -/
section
variable {a : Addr} {L : List (Addr × List κ)} {es : Array (Int × Value)} {ep : Nat} {t : SetTable}
theorem St.hashAt (S : St kd s.heap a L es ep t) {i : Nat} {e : Addr × List κ} (h : L[i]? = some e) : (fun i => (es[i]?.map (·.1)).getD 0) i = hsh kd e.2 := by
  show (es[i]?.map (·.1)).getD 0 = _
  rw [ent_get S.lst h]; rfl
/-- n steps before the first empty slot of the way -/
theorem seek (cm : Calm kd) (S : St kd s.heap a L es ep t) {b : Addr} {k : List κ} (hb : Tp kd s.heap k b) (hu : A.units < cLine) {K : Nat} (big : K < 10 * SetTable.turns t.mask) (free : way t.mask (hsh kd k) K ∉ t.place.toList)
    (full : ∀ c, c < K → way t.mask (hsh kd k) c ∈ t.place.toList) {Q : SetFound → Shared → Prop} (yes : k ∈ L.map Prod.snd → Q (.there none) s) (no : k ∉ L.map Prod.snd → Q (.free (way t.mask (hsh kd k) K) false) s) (n : Nat) :
    ∀ (c f : Nat) (at0 : Option SetTable.Probe), c + n = K → n < f → at0.getD (t.probeStart (hsh kd k)) = prb t.mask (hsh kd k) c →
      (∀ (i : Nat) (e : Addr × List κ), L[i]? = some e → e.2 = k → ∃ d, c ≤ d ∧ d < K ∧ t.place.toList[i]? = some (way t.mask (hsh kd k) d)) → wpAny (model P w) A (setSearchFrom a (.ref b) (hsh kd k) true f at0) Q E s := by
  induction n using Nat.strongRecOn with
  | ind n ih =>
    intro c f at0 hc hf h0 ahead
    obtain ⟨f, rfl⟩ : ∃ g, f = g + 1 := ⟨f - 1, by omega⟩
    obtain ⟨o, get, ex, dat⟩ := S.obj
    have gw : ¬ t.gaveWay = true := by
      unfold SetTable.gaveWay
      rw [mask_odd S.tab.mok]
      decide
    have jq : ∀ q, (nth t.mask (prb t.mask (hsh kd k) c) q).j = way t.mask (hsh kd k) (c + q) := fun q => by rw [prb_add]
    have asked := go_spec t S.tab.ris S.tab.dm (fun i => (es[i]?.map (·.1)).getD 0) (hsh kd k) (10 * SetTable.turns t.mask) n (prb t.mask (hsh kd k) c) (nth_dummy _ _ _ rfl) (by omega)
      (fun q hq => by rw [jq]; exact full _ (by omega)) (by rw [jq, hc]; exact free)
    rw [setSearchFrom_succ]
    refine wpAny_bind (wpAny_setState_of get dat S.fits ?_)
    dsimp only
    refine wp_if_neg gw ?_
    try refine wpAny_bind (wpAny_pure ?_)
    rcases asked with ⟨q, i, hq, hi, _, first, go⟩ | ⟨none_, go⟩
    · have pr : t.probe (fun i => (es[i]?.map (·.1)).getD 0) (hsh kd k) (at0.getD (t.probeStart (hsh kd k))) = some (.candidate (way t.mask (hsh kd k) (c + q)) i (prb t.mask (hsh kd k) (c + (q + 1)))) := by
        rw [h0, ← jq q, ← prb_add]
        exact go
      rw [jq] at hi
      have il : i < L.length := by
        have := (List.getElem?_eq_some_iff.mp hi).1
        rw [Array.length_toList, S.sizes] at this
        exact this
      obtain ⟨e, he⟩ : ∃ e, L[i]? = some e := ⟨L[i], List.getElem?_eq_getElem il⟩
      have em := List.mem_of_getElem? he
      have sl : t.slot (way t.mask (hsh kd k) (c + q)) = .live i := slot_live S.tab.ris hi
      have rest : wpAny (model P w) A (searchRest a (.ref b) (hsh kd k) true f es t (way t.mask (hsh kd k) (c + q)) i (prb t.mask (hsh kd k) (c + (q + 1)))) Q E s := by
        unfold searchRest
        rw [ent_get S.lst he]
        dsimp only
        refine wpAny_bind (wpAny_holding (wpAny_eqBool_tuple hu (S.mem e em) hb (wpAny_bind (wpAny_setState_of get dat S.fits ?_))))
        dsimp only
        by_cases eq : e.2 = k
        · exact wp_if_pos (by simp [eq]) (wpAny_pure (yes (List.mem_map.mpr ⟨e, em, eq⟩)))
        · refine wp_if_neg (by simp [eq]) ?_
          try refine wpAny_bind (wpAny_pure ?_)
          rw [sameMem]
          dsimp only
          simp only [if_true, sl, ent_get S.lst he]
          refine wpAny_bind (wpAny_isSame_ref_self (wpAny_bind (wpAny_pure ?_)))
          simp only [if_true]
          refine wp_if_neg (by simp [eq]) (ih (n - (q + 1)) (by omega) (c + (q + 1)) f _ (by omega) (by omega) rfl fun i' e' he' ke => ?_)
          obtain ⟨d, d1, d2, d3⟩ := ahead i' e' he' ke
          refine ⟨d, ?_, d2, d3⟩
          refine Nat.lt_of_not_le fun le0 => ?_
          have le : d ≤ c + q := le0
          have hsame := (S.hashAt he').trans (congrArg (hsh kd) ke)
          rcases Nat.lt_or_eq_of_le le with lt | eqd
          · exact first (d - c) i' (by omega) (by rw [jq, show c + (d - c) = d by omega]; exact d3) hsame
          · subst eqd
            have sl2 := slot_live S.tab.ris d3
            rw [sl] at sl2
            injection sl2 with ii
            subst ii
            rw [he] at he'
            cases he'
            exact eq ke
      rw [pr]
      dsimp only
      by_cases led : t.led = true
      · refine wp_if_neg (by simp [led]) ?_
        try refine wpAny_bind (wpAny_pure ?_)
        exact rest
      · refine wp_if_pos (by simp [led]) (wpAny_bind (see_tup cm hb (fun y hy => ?_) (wp_if_neg (by decide) ?_)))
        · obtain ⟨x, hx, rfl⟩ := List.mem_map.mp hy
          have hx2 : x ∈ es.toList := by
            have : x ∈ es ∧ x.1 = hsh kd k := by simpa using hx
            simpa using this.1
          rw [S.lst] at hx2
          obtain ⟨e2, m2, rfl⟩ := List.mem_map.mp hx2
          exact ⟨e2.2, e2.1, rfl, S.mem e2 m2⟩
        · try refine wpAny_bind (wpAny_pure ?_)
          exact rest
    · have pr : t.probe (fun i => (es[i]?.map (·.1)).getD 0) (hsh kd k) (at0.getD (t.probeStart (hsh kd k))) = some (.empty (way t.mask (hsh kd k) K) none) := by
        rw [h0, ← hc, ← jq n]
        exact go
      rw [pr]
      dsimp only
      refine wpAny_pure (no fun hm => ?_)
      obtain ⟨e, em, ke⟩ := List.mem_map.mp hm
      obtain ⟨i, he⟩ := List.getElem?_of_mem em
      obtain ⟨d, d1, d2, d3⟩ := ahead i e he ke
      exact none_ (d - c) i (by omega) (by rw [jq, show c + (d - c) = d by omega]; exact d3) ((S.hashAt he).trans (congrArg (hsh kd) ke))
/-- .. as adding asks -/
theorem seek_at (cm : Calm kd) (S : St kd s.heap a L es ep t) {b : Addr} {k : List κ} (hb : Tp kd s.heap k b) (hu : A.units < cLine) {Q : SetFound → Shared → Prop} (yes : k ∈ L.map Prod.snd → Q (.there none) s)
    (no : ∀ K, k ∉ L.map Prod.snd → way t.mask (hsh kd k) K ∉ t.place.toList → (∀ c, c < K → way t.mask (hsh kd k) c ∈ t.place.toList) → Q (.free (way t.mask (hsh kd k) K) false) s) : wpAny (model P w) A (setSearch a (.ref b) (hsh kd k) true) Q E s := by
  have cap := S.cap.1
  obtain ⟨K, big, free, full⟩ := S.tab.first (by rw [List.length_map]; omega) (hsh kd k)
  have small : 10 * SetTable.turns t.mask ≤ 1420 := by
    unfold SetTable.turns
    rcases S.tab.mok with m | m | m <;> omega
  unfold setSearch
  refine seek cm S hb hu big free full yes (fun q => no K q free full) K 0 100000 none (by omega) (by omega) rfl fun i e he ke => ?_
  have il : i < t.place.toList.length := by
    rw [Array.length_toList, S.sizes]
    exact (List.getElem?_eq_some_iff.mp he).1
  have hi : (L.map fun e => hsh kd e.2)[i]? = some (hsh kd k) := by rw [List.getElem?_map, he, ← ke]; rfl
  obtain ⟨d, d1, d2⟩ := S.tab.before free hi (List.getElem?_eq_getElem il)
  exact ⟨d, Nat.zero_le _, d1, by rw [List.getElem?_eq_getElem il, d2]⟩
end
end
/-! ### adding -/
section
variable {kd : KeyKind P w κ} {A : Around} {E : Value → Shared → Prop} {s : Shared}
theorem Tp.but {h h' : Heap} {k : List κ} {a b : Addr} {o : Obj} {es : Array (Int × Value)} {ep : Nat} {t : SetTable} (q : Tp kd h k b) (get : h.get? a = some o) (dat : o.data = .set es ep t) (sb : Heap.SameBut a h h') : Tp kd h' k b := by
  obtain ⟨o', its, n, g', c', d', are⟩ := q
  have ne : b ≠ a := fun e => by
    subst e
    cases get.symm.trans g'
    cases dat.symm.trans d'
  exact ⟨o', its, n, by rw [sb.2 b ne]; exact g', c', d', are⟩
/-- the entries in another order -/
theorem pick_all {L : List (Addr × List κ)} : ∀ n, n ≤ L.length → (List.range n).filterMap (fun i => L[i]?) = L.take n
  | 0, _ => rfl
  | n + 1, h => by
    have g : L[n]? = some L[n] := List.getElem?_eq_getElem h
    rw [List.range_succ, List.filterMap_append, pick_all n (Nat.le_of_lt h), List.take_succ, g, List.filterMap_cons_some g]
    rfl
theorem pick_ent {L : List (Addr × List κ)} {es : Array (Int × Value)} (he : es.toList = ent kd L) : ∀ l : List Nat, (∀ i ∈ l, i < L.length) →
    l.filterMap (fun i => es[i]?) = ent kd (l.filterMap fun i => L[i]?) ∧ ((l.filterMap fun i => L[i]?).map fun e => hsh kd e.2) = l.map fun i => (es.map (·.1)).getD i 0
  | [], _ => ⟨rfl, rfl⟩
  | i :: l, h => by
    obtain ⟨p1, p2⟩ := pick_ent he l fun j hj => h j (List.mem_cons_of_mem _ hj)
    obtain ⟨e, g⟩ : ∃ e, L[i]? = some e := ⟨_, List.getElem?_eq_getElem (h i (List.mem_cons_self ..))⟩
    have ge := ent_get he g
    have gm : (es.map (·.1)).getD i 0 = hsh kd e.2 := by
      have : (es.map (·.1))[i]? = some (hsh kd e.2) := by rw [Array.getElem?_map, ge]; rfl
      simp [Array.getD_eq_getD_getElem?, this]
    rw [List.filterMap_cons_some ge, List.filterMap_cons_some g, p1, List.map_cons, List.map_cons, p2, gm]
    exact ⟨rfl, rfl⟩
variable {a : Addr} {L : List (Addr × List κ)} {es : Array (Int × Value)} {ep : Nat} {t : SetTable}
/-- a larger table -/
theorem lay_again {o : Obj} (get : s.heap.get? a = some o) (ex : o.ExactSet) (dat : o.data = .set es ep t) (lst : es.toList = ent kd L) (tab : TabOk t (L.map fun e => hsh kd e.2)) (room : L.length ≤ t.mask) (inj : (L.map Prod.snd).Nodup)
    (mem : ∀ e ∈ L, Tp kd s.heap e.2 e.1) (cal : w.params.followText "set-order" = true ∨ t.led = true) (few : L.length < 64) {wanted M : Nat} (hM : SetTable.sizeAbove wanted = M + 1) (ok : MaskOk M) (cap : L.length * 5 < M * 3) {Q : Unit → Shared → Prop}
    (then_ : ∀ h' L' es' ep' t', Heap.SameBut a s.heap h' → St kd h' a L' es' ep' t' → L'.Perm L → Q () { s with heap := h' }) : wpAny (model P w) A (setRelay a wanted) Q E s := by
  have size := ent_size lst
  have sz := tab.sz
  rw [List.length_map] at sz
  have fit : t.fits es.size = true := by
    unfold SetTable.fits SetTable.fill
    rw [tab.dm, Bool.and_eq_true, beq_iff_eq, decide_eq_true_eq]
    exact ⟨by omega, by show t.place.size + 0 ≤ t.mask; omega⟩
  obtain ⟨t', order, laid, perm, T, m', l', p', _⟩ := relaid_ok t (hs := es.map (·.1)) (wanted := wanted) (M := M) (by omega) ok (by rw [Array.size_map]; omega)
  rw [Array.size_map, size] at perm
  have inb : ∀ i ∈ order.toList, i < L.length := fun i hi => List.mem_range.mp (perm.mem_iff.mp hi)
  obtain ⟨e1, e2⟩ := pick_ent lst order.toList inb
  have pm : (order.toList.filterMap fun i => L[i]?).Perm L := by
    have := perm.filterMap (fun i => L[i]?)
    rwa [pick_all L.length (Nat.le_refl _), List.take_length] at this
  have new : (order.filterMap (es[·]?)).toList = ent kd (order.toList.filterMap fun i => L[i]?) := by
    rw [← e1]
    first | exact Array.toList_filterMap | simp
  generalize order.toList.filterMap (fun i => L[i]?) = L' at e2 pm new
  rw [← e2] at T
  have size' := ent_size new
  rw [pm.length_eq] at size'
  have bound : M ≤ 127 := by rcases ok with q | q | q <;> omega
  rw [setRelay_eq]
  refine wpAny_bind (wpAny_setState_of get dat fit ?_)
  dsimp only
  refine wp_if_neg (by rw [sizeLine_eq]; omega) ?_
  try refine wpAny_bind (wpAny_pure ?_)
  rw [laid]
  dsimp only
  refine wpAny_bind (wp_if_neg (by rw [size', size]; simp) ?_)
  try refine wpAny_bind (wpAny_pure ?_)
  refine wpAny_pure ?_
  dsimp only
  refine wpAny_storeSet_of get dat ?_ (by rw [size', sizeLine_eq]; omega)
  have sb : Heap.SameBut a s.heap (s.heap.update a (Obj.putSet (order.filterMap (es[·]?)) t')) := Heap.SameBut.update ..
  exact then_ _ L' _ (ep + 1) t' sb ⟨⟨_, store_at get dat, ⟨ex.1, ex.2.1, ex.2.2⟩, rfl⟩, new, T, (pm.map Prod.snd).nodup_iff.mpr inj, fun e he => (mem e (pm.mem_iff.mp he)).but get dat sb, by rw [l']; exact cal, by rw [pm.length_eq, m']; exact ⟨cap, few⟩⟩ pm
/-- one more -/
theorem add_one (cm : Calm kd) (S : St kd s.heap a L es ep t) {b : Addr} {k : List κ} (hb : Tp kd s.heap k b) (hu : A.units < cLine) (few : L.length + 1 < 64) {Q : Bool → Shared → Prop}
    (then_ : ∀ r h' L' es' ep' t', Heap.SameBut a s.heap h' → St kd h' a L' es' ep' t' → (k ∈ L.map Prod.snd → L' = L) → (k ∉ L.map Prod.snd → L'.Perm ((b, k) :: L)) → Q r { s with heap := h' }) : wpAny (model P w) A (setAddHashed a (.ref b) (hsh kd k)) Q E s := by
  obtain ⟨o, get, ex, dat⟩ := S.obj
  unfold setAddHashed
  refine wpAny_holding ?_
  rw [show 100000 = Nat.succ 99999 from rfl, setAddHashedIn_succ]
  refine wpAny_bind (wpAny_setState_of get dat S.fits ?_)
  dsimp only
  refine wp_if_neg (by simp [byScan, Value.scannable]) ?_
  try refine wpAny_bind (wpAny_pure ?_)
  refine wpAny_bind (seek_at cm S hb hu (fun here => ?_) fun K gone free full => ?_)
  · dsimp only
    exact wpAny_pure (then_ false s.heap L es ep t (Heap.SameBut.refl a s.heap) S (fun _ => rfl) fun q => absurd here q)
  dsimp only
  refine wpAny_bind (wpAny_setState_of get dat S.fits ?_)
  dsimp only
  obtain ⟨at_, le, T, mk, ld, pl, _, _, fl⟩ := S.tab.put free full
  rw [List.length_map] at le fl
  generalize hw : way t.mask (hsh kd k) K = slot at at_ le T mk ld pl fl
  generalize hp : t.put slot = put at at_ T mk ld pl fl
  obtain ⟨t1, p⟩ := put
  dsimp only at at_ T mk ld pl fl ⊢
  subst at_
  have rest : ∀ t2 : SetTable, TabOk t2 ((L.map fun e => hsh kd e.2).take (SetTable.below t.place slot) ++ hsh kd k :: (L.map fun e => hsh kd e.2).drop (SetTable.below t.place slot)) → t2.mask = t.mask → t2.led = t.led → t2.fill = L.length + 1 →
      wpAny (model P w) A (storeSet a (SetTable.insertAt es (SetTable.below t.place slot) (hsh kd k, Value.ref b)) t2 >>= fun _ => if (!false && t2.tooFull) = true then (setRelay a (SetTable.grown (es.size + 1)) >>= fun _ => pure true) else pure true) Q E s := by
    clear T mk ld pl fl hp
    intro t2 T mk ld fl
    generalize hq : SetTable.below t.place slot = q at le T ⊢
    have new : (SetTable.insertAt es q (hsh kd k, Value.ref b)).toList = ent kd (L.take q ++ (b, k) :: L.drop q) := by
      rw [SetTable.toList_insertAt, S.lst, ent, ent, List.map_append, List.map_cons, List.map_take, List.map_drop]
    have pm : (L.take q ++ (b, k) :: L.drop q).Perm ((b, k) :: L) := put_perm L q (b, k)
    have T' : TabOk t2 ((L.take q ++ (b, k) :: L.drop q).map fun e => hsh kd e.2) := by
      rw [List.map_append, List.map_cons, List.map_take, List.map_drop]
      exact T
    generalize L.take q ++ (b, k) :: L.drop q = L1 at new pm T'
    generalize SetTable.insertAt es q (hsh kd k, Value.ref b) = es1 at new ⊢
    have len1 : L1.length = L.length + 1 := pm.length_eq
    have size1 := ent_size new
    have inj1 : (L1.map Prod.snd).Nodup := (pm.map Prod.snd).nodup_iff.mpr (by rw [List.map_cons]; exact List.nodup_cons.mpr ⟨gone, S.inj⟩)
    refine wpAny_bind (wpAny_storeSet_of get dat ?_ (by rw [size1, sizeLine_eq]; omega))
    have sb : Heap.SameBut a s.heap (s.heap.update a (Obj.putSet es1 t2)) := Heap.SameBut.update ..
    have get1 := store_at (es' := es1) (t' := t2) get dat
    generalize s.heap.update a (Obj.putSet es1 t2) = h1 at sb get1 ⊢
    have mem1 : ∀ e ∈ L1, Tp kd h1 e.2 e.1 := fun e he => by
      rcases List.mem_cons.mp (pm.mem_iff.mp he) with q | q
      · subst q; exact hb.but get dat sb
      · exact (S.mem e q).but get dat sb
    have cal1 : w.params.followText "set-order" = true ∨ t2.led = true := by rw [ld]; exact S.cal
    have full1 : t2.tooFull = decide ((L.length + 1) * 5 ≥ t2.mask * 3) := by
      unfold SetTable.tooFull
      rw [fl]
    have cap := S.cap.1
    by_cases tf : t2.tooFull = true
    · have much : (L.length + 1) * 5 ≥ t2.mask * 3 := by rw [full1] at tf; exact of_decide_eq_true tf
      rw [mk] at much
      have two : (t.mask = 7 ∧ L.length = 4) ∨ (t.mask = 31 ∧ L.length = 18) := by
        rcases S.tab.mok with m | m | m
        · exact .inl ⟨m, by omega⟩
        · exact .inr ⟨m, by omega⟩
        · omega
      first
        | (refine wpAny_bind ?_; refine wp_if_pos (by simp [tf]) ?_)
        | (refine wp_if_pos (by simp [tf]) ?_; refine wpAny_bind ?_)
      rw [ent_size S.lst]
      have larger : ∀ M, SetTable.sizeAbove (SetTable.grown (L.length + 1)) = M + 1 → MaskOk M → (L.length + 1) * 5 < M * 3 → wpAny (model P w) A (setRelay a (SetTable.grown (L.length + 1))) (fun _ z => wpAny (model P w) A (pure true) Q E z) E { s with heap := h1 } := fun M e1 e2 e3 =>
        lay_again (s := { s with heap := h1 }) get1 ⟨ex.1, ex.2.1, ex.2.2⟩ rfl new T' (by rw [len1, mk]; omega) inj1 mem1 cal1 (by omega) e1 e2 (by rw [len1]; exact e3) fun h2 L2 es2 ep2 t2 sb2 S2 pm2 => wpAny_pure (then_ true h2 L2 es2 ep2 t2 (sb.trans sb2) S2 (fun q => absurd q gone) fun _ => pm2.trans pm)
      rcases two with ⟨_, n⟩ | ⟨_, n⟩
      · exact larger 31 (by rw [n]; exact size_20) (.inr (.inl rfl)) (by omega)
      · exact larger 127 (by rw [n]; exact size_76) (.inr (.inr rfl)) (by omega)
    · have less : ¬ (L.length + 1) * 5 ≥ t2.mask * 3 := fun z => tf (by rw [full1]; exact decide_eq_true z)
      first
        | refine wp_if_neg (by simp [tf]) ?_
        | (refine wpAny_bind ?_; refine wp_if_neg (by simp [tf]) ?_; refine wpAny_pure ?_)
      exact wpAny_pure (then_ true h1 L1 es1 (ep + 1) t2 sb ⟨⟨_, get1, ⟨ex.1, ex.2.1, ex.2.2⟩, rfl⟩, new, T', inj1, mem1, cal1, by omega⟩ (fun q => absurd q gone) fun _ => pm)
  by_cases pp : t1.plain = true
  · refine wp_if_pos pp (wpAny_bind (bv_tup cm hb fun r => ?_))
    cases r with
    | true => exact rest t1 T mk ld fl
    | false => exact rest { t1 with plain := false } ⟨T.ris, T.dm, T.sz, T.mok, T.bd, T.reach⟩ mk ld fl
  · exact wp_if_neg pp (wpAny_bind (wpAny_pure (rest t1 T mk ld fl)))
end
/-! ### all items of a list -/
/-- the set holds just what the first n rows tell -/
structure Has (rows : List (Addr × List κ)) (n : Nat) (L : List (Addr × List κ)) : Prop where
  only : ∀ e ∈ L, e ∈ rows.take n
  each : ∀ e ∈ rows.take n, e.2 ∈ L.map Prod.snd
  most : L.length ≤ n
theorem Has.next {rows L L' : List (Addr × List κ)} {n : Nat} {e : Addr × List κ} (g : Has rows n L) (h : rows[n]? = some e) (c1 : e.2 ∈ L.map Prod.snd → L' = L) (c2 : e.2 ∉ L.map Prod.snd → L'.Perm (e :: L)) : Has rows (n + 1) L' := by
  have step : rows.take (n + 1) = rows.take n ++ [e] := take_next h
  by_cases q : e.2 ∈ L.map Prod.snd
  · rw [c1 q]
    refine ⟨fun x hx => by rw [step]; exact List.mem_append_left _ (g.only x hx), fun x hx => ?_, Nat.le_succ_of_le g.most⟩
    rw [step, List.mem_append, List.mem_singleton] at hx
    rcases hx with hx | hx
    · exact g.each x hx
    · subst hx; exact q
  · have pm := c2 q
    refine ⟨fun x hx => ?_, fun x hx => ?_, by rw [pm.length_eq]; exact Nat.succ_le_succ g.most⟩
    · rw [step, List.mem_append, List.mem_singleton]
      rcases List.mem_cons.mp (pm.mem_iff.mp hx) with hx | hx
      · exact .inr hx
      · exact .inl (g.only x hx)
    · rw [step, List.mem_append, List.mem_singleton] at hx
      rw [(pm.map Prod.snd).mem_iff, List.map_cons, List.mem_cons]
      rcases hx with hx | hx
      · exact .inr (g.each x hx)
      · subst hx; exact .inl rfl
section
variable {kd : KeyKind P w κ} {A : Around} {E : Value → Shared → Prop} {s : Shared}
theorem Tp.stay {h h' : Heap} {k : List κ} {b : Addr} (q : Tp kd h k b) (keep : ∀ c o, h.get? c = some o → h'.get? c = some o) : Tp kd h' k b := by
  obtain ⟨o, its, n, g, r⟩ := q
  exact ⟨o, its, n, keep _ _ g, r⟩
theorem St.stay {h h' : Heap} {a : Addr} {L : List (Addr × List κ)} {es : Array (Int × Value)} {ep : Nat} {t : SetTable} (S : St kd h a L es ep t) (own : ∀ o, h.get? a = some o → h'.get? a = some o) (mem : ∀ e ∈ L, Tp kd h' e.2 e.1) : St kd h' a L es ep t := by
  obtain ⟨o, g, r⟩ := S.obj
  exact ⟨⟨o, own o g, r⟩, S.lst, S.tab, S.inj, mem, S.cal, S.cap⟩
noncomputable abbrev newTab (w : World) : SetTable := .fresh 0 0 (!w.params.followText "set-order")
noncomputable abbrev newSet (w : World) : Obj := { cls := .type "set", dict := none, data := .set #[] 0 (newTab w) }
theorem St.empty {h : Heap} {a : Addr} (g : h.get? a = some (newSet w)) : St kd h a [] #[] 0 (newTab w) :=
  ⟨⟨_, g, ⟨rfl, rfl, rfl⟩, rfl⟩, rfl, ⟨List.Pairwise.nil, rfl, rfl, .inl rfl, fun x hx => (nomatch hx), fun i h j hi => (by simp at hi)⟩, List.nodup_nil, fun e he => (nomatch he), by
    cases q : w.params.followText "set-order"
    · exact .inr (by show (!w.params.followText "set-order") = true; rw [q]; rfl)
    · exact .inl rfl, ⟨by show 0 * 5 < 7 * 3; decide, by show 0 < 64; decide⟩⟩
/-- the loop behind set(xs) -/
theorem loop_ok (cm : Calm kd) {It : Addr} {fp wr : List Addr} {G : Array GenState → Array GenState → Prop} {n : Nat} {Pv : Nat → Value → Prop} {Sv : Nat → Shared → Prop} {R : Result → Shared → Prop} (W : WalksS P w A.in1 It fp wr G n Pv Sv) (a : Addr) (afp : a ∉ fp) (rows : List (Addr × List κ)) (few : rows.length < 64)
    (hn : rows.length = n) (row : ∀ i v, Pv i v → ∃ e, rows[i]? = some e ∧ v = .ref e.1) (h0 : Heap) (tups : ∀ e ∈ rows, Tp kd h0 e.2 e.1) (a0 : h0.get? a = none) (wr0 : ∀ b ∈ wr, h0.get? b = none) (hu : A.in1.units < cLine) (left : Nat) :
    ∀ (i : Nat) (s : Shared), i + left = n → Sv i s → (∀ b o, h0.get? b = some o → s.heap.get? b = some o) → (∃ L es ep t, St kd s.heap a L es ep t ∧ Has rows i L) →
      (∀ z L es ep t, Moved (a :: wr) G s z → St kd z.heap a L es ep t → Has rows n L → (∀ b o, h0.get? b = some o → z.heap.get? b = some o) → R (.ok (.ret .none)) z) → codeAny (model P w) A (.builtin "set.update.loop" ⟨[.ref a, .ref It], []⟩) R s := by
  have awr : a ∉ wr := fun q => afp (W.sub _ q)
  have more : ∀ b ∈ wr, b ∈ a :: wr := fun b hb => List.mem_cons_of_mem _ hb
  have old : ∀ {s z : Shared}, Moved wr G s z → (∀ b o, h0.get? b = some o → s.heap.get? b = some o) → ∀ b o, h0.get? b = some o → z.heap.get? b = some o := fun mv k b o e => by
    refine mv.heap b o (fun hb => ?_) (k b o e)
    rw [wr0 b hb] at e
    cases e
  induction left with
  | zero =>
    intro i s hi sv keep ⟨L, es, ep, t, S, g⟩ done
    rw [Nat.add_zero] at hi
    subst hi
    refine codeAny_builtin F.entry_set_update_loop ?_
    rw [Around.under_plainId F.plain_set_update_loop _]
    show wpAny _ A.in1 (bind (pyNext (.ref It)) _) _ _ s
    refine wpAny_bind (W.done s _ _ sv fun z mv => ?_)
    have keep' := old mv keep
    have sub : ∀ e ∈ L, e ∈ rows := fun e he => List.mem_of_mem_take (g.only e he)
    show wpAny _ A.in1 (ret .none) _ _ z
    exact wpAny_pure (done z L es ep t (mv.mono more) (S.stay (fun o q => mv.heap a o awr q) fun e he => (tups e (sub e he)).stay keep') g keep')
  | succ left ih =>
    intro i s hi sv keep ⟨L, es, ep, t, S, g⟩ done
    refine codeAny_builtin F.entry_set_update_loop ?_
    rw [Around.under_plainId F.plain_set_update_loop _]
    show wpAny _ A.in1 (bind (pyNext (.ref It)) _) _ _ s
    refine wpAny_bind (W.item i s _ _ (by omega) sv fun v z pv sv' mv => ?_)
    obtain ⟨e, he, rfl⟩ := row i v pv
    have keep' := old mv keep
    have sub : ∀ e ∈ L, e ∈ rows := fun e he => List.mem_of_mem_take (g.only e he)
    have S' : St kd z.heap a L es ep t := S.stay (fun o q => mv.heap a o awr q) fun x hx => (tups x (sub x hx)).stay keep'
    have te : Tp kd z.heap e.2 e.1 := (tups e (List.mem_of_getElem? he)).stay keep'
    show wpAny _ A.in1 (bind (holding [.ref e.1] (setAdd a (.ref e.1))) _) _ _ z
    refine wpAny_bind (wpAny_holding ?_)
    unfold setAdd
    refine wpAny_holding (wpAny_bind (wpAny_pyHash_tuple hu te ?_))
    refine add_one cm (s := { z with toks := z.toks + (e.2.length + 1) }) S' te hu (by have := g.most; omega) fun r h' L' es' ep' t' sb S2 c1 c2 => ?_
    have g' : Has rows (i + 1) L' := g.next he c1 c2
    have keep2 : ∀ b o, h0.get? b = some o → h'.get? b = some o := fun b o q => by
      rw [sb.2 b (fun y => by rw [y, a0] at q; cases q)]
      exact keep' b o q
    refine wpAny_pure ⟨plainId_quiet F.plain_set_update_loop _, ih (i + 1) _ (by omega) (W.frame _ z _ _ sv' (Nat.le_add_right _ _) fun b hb o q => ?_) keep2 ⟨L', es', ep', t', S2, g'⟩ fun z2 L2 es2 ep2 t2 mv2 S3 g3 k3 => ?_⟩
    · rw [sb.2 b (fun y => afp (y ▸ hb))]
      exact q
    · refine done z2 L2 es2 ep2 t2 (Moved.trans W.gtrans ((mv.mono more).then_heap (Nat.le_add_right _ _) fun b o hb q => ?_) mv2) S3 g3 k3
      rw [sb.2 b (fun y => hb (by rw [y]; exact List.mem_cons_self))]
      exact q
end
end SG
end VL

/-! DLq: set(xs), xs a list of tuples of plain things. -/
namespace VL
namespace SG
open PySem PySem.Spec PyProof.Rows L2
variable {P : Program} {w : World} {κ : Type} [DecidableEq κ]
section
variable {kd : KeyKind P w κ} {A : Around} {E : Value → Shared → Prop} {s : Shared}
/-- set(xs), xs a list of such tuples -/
theorem set_of (cm : Calm kd) {l : Addr} {items : Array Value} (rows : List (Addr × List κ)) {Q : Value → Shared → Prop} (calm : A.handled = none) (hl : s.heap.IsList l items) (hi : items.toList = rows.map fun e => Value.ref e.1) (tups : ∀ e ∈ rows, Tp kd s.heap e.2 e.1) (few : rows.length < 64) (hu : A.units + 3 < cLine)
    (then_ : ∀ (h' : Heap) (tk : Nat) L es ep t, St kd h' s.heap.objs.size L es ep t → Has rows rows.length L → (∀ b o, s.heap.get? b = some o → h'.get? b = some o) → Q (.ref s.heap.objs.size) { s with heap := h', toks := tk }) : wpAny (model P w) A (call (.type "set") [.ref l]) Q E s := by
  have size : rows.length = items.size := by rw [← Array.length_toList, hi, List.length_map]
  obtain ⟨c0, rest0, mro⟩ := F.called_set.mro
  have made := F.called_set.made
  have sub := F.called_set.sub
  refine wpAny_call (codeAny_of_tree ?_)
  show wpAny _ _ (callAny (.type "set") _) _ _ _
  refine wpAny_pure ⟨Code.quiet_builtin _ (by decide +kernel), codeAny_builtin F.entry_type_call ?_⟩
  rw [Around.under_plain (weight_type_call_type "set" [.ref l] []) rfl]
  have nt := F.called_set.notType
  have cc := F.called_set.canCreate
  have tc := F.typeCall_set_1 (.ref l)
  repeat any_goals first | assumption | wp_step
  refine codeAny_mono (code_set_led1 (.ref l) (E := E) (Q₁ := fun obj z => obj = .ref s.heap.objs.size ∧ z = { s with heap := s.heap.push (newSet w) }) ⟨rfl, rfl⟩) fun r z hz => ?_
  match r, hz with
  | .error e, hz => exact hz
  | .ok .next, hz => exact hz.elim
  | .ok .brk, hz => exact hz.elim
  | .ok .cont, hz => exact hz.elim
  | .ok (.ret obj), ⟨eo, ez⟩ =>
    subst eo ez
    have got : (s.heap.push (newSet w)).get? s.heap.objs.size = some (newSet w) := Heap.get?_push_size _ rfl
    have ty : Shared.TypeIs { s with heap := s.heap.push (newSet w) } (.ref s.heap.objs.size) "set" := ⟨_, got, rfl⟩
    have il := F.called_set.init.lookup
    have ib := F.called_set.init.bind (.ref s.heap.objs.size)
    repeat any_goals first | assumption | wp_step
    refine codeAny_mono (codeAny_call_builtin (R := wants (fun r z => r = .none ∧ ∃ h' tk L es ep t, z = { s with heap := h', toks := tk } ∧ St kd h' s.heap.objs.size L es ep t ∧ Has rows rows.length L ∧ (∀ b o, s.heap.get? b = some o → h'.get? b = some o)) E) F.called_set.init.plain F.entry_set_init (check_set_init_1 ty ?_)) fun r2 z2 h2 => ?_
    · obtain ⟨ol, gl, cl, nl, dl⟩ := hl
      obtain ⟨ocls, odict, odata, oslots⟩ := ol
      simp only at cl dl
      subst cl dl
      have gl' : (s.heap.push (newSet w)).get? l = some { cls := .type "list", dict := odict, data := .seq items nl, slots := oslots } := Heap.get?_push_of_some _ gl
      have sl1 := F.sub_list_set
      have sl2 := F.sub_list_frozenset
      have ne1 : (Value.type "list" == Value.type "dict") = false := by decide
      have is1 : (s.heap.push (newSet w)).IsList l items := ⟨_, gl', rfl, nl, rfl⟩
      have lt : l < s.heap.objs.size := Heap.lt_size gl
      have calm3 : A.in1.in1.in1.handled = none := by simp [calm]
      have sz : (s.heap.push (newSet w)).objs.size = s.heap.objs.size + 1 := Heap.size_push ..
      have none_at : ∀ b, s.heap.objs.size ≤ b → s.heap.get? b = none := fun b hb => by
        cases q : s.heap.get? b with
        | none => rfl
        | some o => exact absurd (Heap.lt_size q) (Nat.not_lt.mpr hb)
      unfold Builtin.«set.__init__» noKeywords Builtin.Frozenset.updateFrom
      generalize itr : pyIter = PI
      wp_walk
      subst itr
      refine wpAny_pyIter_list is1 (wpAny_bind (wpAny_runValue ?_))
      refine loop_ok cm ((Walks.list calm3 _ l (by rw [sz]; exact Nat.ne_of_lt (Nat.lt_succ_of_lt lt)) items).toS) s.heap.objs.size (by
          rw [sz]
          simp only [List.mem_cons, List.not_mem_nil, or_false, not_or]
          exact ⟨Nat.ne_of_lt (Nat.lt_succ_self _), Nat.ne_of_gt lt⟩) rows few size (fun i v hv => ?_) s.heap tups (none_at _ (Nat.le_refl _)) (fun b hb => none_at b ?_) hu (items.size - 0) 0 _ (by omega) ⟨⟨_, Heap.get?_push_size _ rfl, rfl, rfl⟩, is1.push _⟩ (fun b o q => Heap.get?_push_of_some _ (Heap.get?_push_of_some _ q)) ?_ ?_
      · have q : items.toList[i]? = some v := by rw [Array.getElem?_toList]; exact hv
        rw [hi, List.getElem?_map] at q
        cases hq : rows[i]? with
        | none => rw [hq] at q; cases q
        | some e => rw [hq] at q; exact ⟨e, rfl, (Option.some.inj q).symm⟩
      · rw [List.mem_singleton.mp hb, sz]
        exact Nat.le_succ _
      · exact ⟨[], #[], 0, _, St.empty (Heap.get?_push_of_some _ got), ⟨fun e he => (nomatch he), fun e he => (by simp at he), Nat.le_refl _⟩⟩
      · intro z L es ep t mv S g keep
        obtain ⟨h', g2, d2, tk, o2⟩ := z
        have e1 : g2 = s.gens := mv.gens
        have e2 : d2 = s.drawn := mv.drawn
        have e3 : o2 = s.os := mv.os
        subst e1 e2 e3
        rw [← size] at g
        show wpAny _ _ _ _ _ _
        refine wpAny_pure ?_
        show wpAny _ _ (ret .none) _ _ _
        exact wpAny_pure ⟨rfl, h', tk, L, es, ep, t, rfl, S, g, keep⟩
    · match r2, h2 with
      | .error e, h2 => exact h2
      | .ok .next, h2 => exact h2.elim
      | .ok .brk, h2 => exact h2.elim
      | .ok .cont, h2 => exact h2.elim
      | .ok (.ret u), ⟨eu, h', tk, L, es, ep, t, ez, S, g, keep⟩ =>
        subst eu ez
        repeat any_goals first | assumption | wp_step
        exact then_ _ _ _ _ _ _ S g keep
end
end SG
end VL

/-! VLe: subscripts, in, calls of builtins, as functions on trees. -/
namespace VL
open PySem PySem.Spec PyProof.Rows L2
variable [LamT]

/-! ### keys of dicts -/
noncomputable def keyK : D → Option Key
  | .int i => some (.inl i)
  | .str s => some (.inr s)
  | _ => none
noncomputable def keyKs : List D → Option (List Key)
  | [] => some []
  | d :: ds => match keyK d, keyKs ds with
    | some k, some ks => some (k :: ks)
    | _, _ => none
/-- a tuple as a key: not the text's own nought -/
noncomputable def keyT : D → Option (List Key)
  | .tup ds => match keyKs ds with
    | some ks => if ks = [.inl 0, .inl 1] then none else some ks
    | none => none
  | _ => none
noncomputable def kD : Key → D
  | .inl i => .int i
  | .inr s => .str s
noncomputable def kdD : Kd → D
  | .k k => kD k
  | .t ks => .tup (ks.map kD)
section
variable {K : PySem.W.Frag} {G B H : Hp}
theorem key_dt {v : V} {d : D} {k : Key} (h : Dt K G B H v d) (e : keyK d = some k) : v = kV k := by
  cases d with
  | int i => cases e; exact dt_int h
  | str i => cases e; exact dt_str h
  | _ => cases e
theorem keys_dts : ∀ {vs : List V} {ds : List D} {ks : List Key}, Dts K G B H vs ds → keyKs ds = some ks → vs = ks.map kV
  | [], [], ks, _, e => by cases e; rfl
  | [], _ :: _, _, h, _ => by have := h.length; simp at this
  | _ :: _, [], _, h, _ => by have := h.length; simp at this
  | v :: vs, d :: ds, ks, h, e => by
    obtain ⟨_, h, t⟩ := h.uncons
    unfold keyKs at e
    cases e1 : keyK d with
    | none => rw [e1] at e; cases e
    | some k =>
      cases e2 : keyKs ds with
      | none => rw [e1, e2] at e; cases e
      | some ks' =>
        rw [e1, e2] at e
        cases e
        rw [key_dt h e1, keys_dts t e2] <;> rfl
theorem keyT_dt {v : V} {d : D} {ks : List Key} (gh : Sub G H) (h : Dt K G B H v d) (e : keyT d = some ks) : ∃ b, v = .ref b ∧ H b = some (.tup (ks.map kV)) ∧ G b = some (.tup (ks.map kV)) := by
  cases d with
  | tup ds =>
    obtain ⟨p, vs, rfl, _, ht, hs⟩ := dt_tup gh h
    simp only [keyT] at e
    cases e1 : keyKs ds with
    | none => rw [e1] at e; cases e
    | some ks' =>
      rw [e1] at e
      have hv := keys_dts hs e1
      by_cases hc : ks' = [.inl 0, .inl 1]
      · rw [hc] at e; simp at e
      · simp only [hc, if_false, Option.some.injEq] at e
        subst e
        rcases ht with ht | ⟨ht, _⟩
        · rw [hv] at ht
          exact ⟨p, rfl, gh p _ ht trivial, ht⟩
        · exfalso
          apply hc
          rw [hv] at ht
          match ks', ht with
          | [.inl a, .inl b], ht => simpa [kV] using ht
          | [.inl a, .inr b], ht => simp [kV] at ht
          | [.inr a, _], ht => simp [kV] at ht
          | [], ht => simp at ht
          | [_], ht => simp at ht
          | _ :: _ :: _ :: _, ht => simp at ht
  | _ => cases e
theorem kD_dt (k : Key) : (kD k).old ∧ Dt K G B H (kV k) (kD k) := by
  cases k with
  | inl i => exact ⟨by simp [kD, D.root], _, .int i⟩
  | inr i => exact ⟨by simp [kD, D.root], _, .str i⟩
theorem Dtm.valT {k : List Key} : ∀ {vs : List (List Key × V)} {ds : List (Kd × D)}, Dtm K G B H (vs.map kT) ds → (getK ds (.t k) = none → valV vs k = none) ∧ ∀ d, getK ds (.t k) = some d → ∃ v, valV vs k = some v ∧ d.old ∧ Dt K G B H v d
  | [], [], _ => ⟨fun _ => rfl, fun d e => nomatch e⟩
  | [], _ :: _, h => by have := h.length; simp at this
  | _ :: _, [], h => by have := h.length; simp at this
  | (k0, v) :: vs, (k', d) :: ds, h => by
    obtain ⟨rfl, n, h1, h2⟩ := Dtm.uncons (k := .t k0) (v := v) (vs := vs.map kT) h
    obtain ⟨i1, i2⟩ := Dtm.valT (k := k) h2
    by_cases e : k0 = k
    · subst e
      rw [getK, if_pos rfl, valV_pos rfl]
      exact ⟨fun z => (nomatch z), fun d' z => by cases z; exact ⟨_, rfl, n, h1⟩⟩
    · rw [getK, if_neg (by simpa using e), valV_neg e]
      exact ⟨i1, i2⟩
/-- what a dict holds at a key; none: it is no key of its kind -/
noncomputable def dgetD (d k : D) : Option (Option D) := match d with
  | .dic _ kvs => (keyK k).map fun x => getK kvs (.k x)
  | .dit _ kvs => (keyT k).map fun x => getK kvs (.t x)
  | _ => none
theorem dget_dt {x y : V} {d k : D} {o : Option D} (gh : Sub G H) (bh : SmN B H) (h : Dt K G B H x d) (hk : Dt K G B H y k) (e : dgetD d k = some o) : ∃ a r, x = .ref a ∧ DGet H a y r ∧ (o = none → r = none) ∧ ∀ e, o = some e → ∃ v, r = some v ∧ e.old ∧ Dt K G B H v e := by
  cases d with
  | dic f kvs =>
    obtain ⟨p, vs, rfl, hp, hm⟩ := dt_dic gh bh h
    simp only [dgetD] at e
    cases e1 : keyK k with
    | none => rw [e1] at e; cases e
    | some q =>
      rw [e1] at e
      cases e
      have := key_dt hk e1
      subst this
      obtain ⟨i1, i2⟩ := hm.valK (k := q)
      exact ⟨p, _, rfl, .inl ⟨vs, q, hp, rfl, rfl⟩, i1, i2⟩
  | dit f kvs =>
    obtain ⟨p, vs, rfl, hp, hm⟩ := dt_dit gh bh h
    simp only [dgetD] at e
    cases e1 : keyT k with
    | none => rw [e1] at e; cases e
    | some q =>
      rw [e1] at e
      cases e
      obtain ⟨b, rfl, hb, _⟩ := keyT_dt gh hk e1
      obtain ⟨i1, i2⟩ := hm.valT (k := q)
      exact ⟨p, _, rfl, .inr ⟨vs, q, b, hp, rfl, hb, rfl⟩, i1, i2⟩
  | _ => cases e
end

/-! ### x[i] -/
noncomputable def ofO {α : Type} : Option α → Out Exn α
  | some d => .ok d
  | none => .no
noncomputable def ixV (x y : D) : Out Exn D := match x, y with
  | .str z, .int i => if z.length ≤ sizeLine then ofO ((atI z.cps.toList i).map fun c => .str ⟨#[c]⟩) else .no
  | .tup ds, .int i => ofO (atI ds i)
  | .tuk ds, .int i => ofO (atI ds i)
  | .lst _ ds, .int i => ofO (atI ds i)
  | d, k => ofO ((dgetD d k).bind id)
section
variable {K : PySem.W.Frag} {X : Cx}
noncomputable def rIxD : R2 := fun x y H Q => ∃ a v, x = .ref a ∧ DGet H a y (some v) ∧ Q v H
theorem ix_dict (hu : X.A.units + 1 < cLine) : IxR X rIxD := by
  intro value slice pins s σ H x y v u Q I rx ry h hs
  obtain ⟨a, w, rfl, g, q⟩ := h
  obtain rfl : v = Value.ref a := rx
  have hT := dict_typeIs I g
  unfold subscriptTail
  refine wpAny_bind ?_
  rw [getitemInPython_of_ne hT.not_modules]
  refine wpAny_bind (wpAny_specialOf hT PySem.F.slot_dict_getitem.lookup ?_)
  have h2 : wpAny (model X.prog X.w) X.A (getItem (.ref a) u) (EP X pins σ Q) X.xe s := d_getItem hu I g ry fun w' s3 I3 rw' => ⟨w, H, I3, rw', q⟩
  have fin : wpAny (model X.prog X.w) X.A (subscripted slice false (.ref a) u) (fun r s₃ => wpAny (model X.prog X.w) X.A (letTemporaryGo value (.ref a) r >>= fun _ => pure r) (EP X pins σ Q) X.xe s₃) X.xe s := by
    rw [hs]
    exact wpAny_operating (wpAny_mono h2 (fun r s₃ h₃ => wpAny_bind (wpAny_letTemporaryGo (wpAny_pure h₃))) fun _ _ x => x)
  first
    | exact wpAny_pure (wpAny_bind fin)
    | exact wpAny_bind (wpAny_pure (wpAny_bind fin))
    | exact wpAny_bind fin
noncomputable abbrev rIxU (K : PySem.W.Frag) : R2 := fun x y H Q => rIx K x y H Q ∨ rIxD x y H Q
theorem ix_U (hu : X.A.units + 1 < cLine) : IxR X (rIxU X.K) := ix_seq.or (ix_dict hu)
theorem atI_dts {G B H : Hp} {vs : List V} {ds : List D} {i : Int} {d : D} (hs : Dts K G B H vs ds) (h : atI ds i = some d) : ∃ v, atI vs i = some v ∧ d.old ∧ Dt K G B H v d := by
  unfold atI at h ⊢
  rw [← hs.length] at h
  cases e : ixN vs.length i with
  | none => rw [e] at h; cases h
  | some j =>
    rw [e] at h
    exact hs.get h
theorem out_opt {α : Type} {o : Option α} {P : α → Prop} {E : Exn → Prop} (h : (ofO o).P P E) : ∃ d, o = some d ∧ P d := by
  cases o with
  | none => exact h.elim
  | some d => exact ⟨d, rfl, h⟩
theorem v_ix : V2 K (rIxU K) ixV := ⟨fun G B H x y dx dy R gh bh d1 d2 h => by
  unfold ixV at h
  split at h
  · rename_i z i
    by_cases hz : z.length ≤ sizeLine
    · rw [if_pos hz] at h
      obtain ⟨d, e, k⟩ := out_opt h
      obtain ⟨c, e2, rfl⟩ := Option.map_eq_some_iff.mp e
      exact .inl (.inr (.inr ⟨z, i, c, dt_str d1, dt_int d2, hz, e2, kq_s gh k⟩))
    · rw [if_neg hz] at h; exact h.elim
  · obtain ⟨d, e, k⟩ := out_opt h
    obtain ⟨p, vs, rfl, hp, hp2, hs⟩ := dt_tup gh d1
    obtain ⟨v, hv, n, hd⟩ := atI_dts hs e
    exact .inl (.inr (.inl ⟨p, vs, _, v, rfl, dt_int d2, hp, hv, k.given gh hd (Fresh.of n)⟩))
  · obtain ⟨d, e, k⟩ := out_opt h
    obtain ⟨p, vs, rfl, hp, hs⟩ := dt_tuk gh d1
    obtain ⟨v, hv, n, hd⟩ := atI_dts hs e
    exact .inl (.inr (.inl ⟨p, vs, _, v, rfl, dt_int d2, hp, hv, k.given gh hd (Fresh.of n)⟩))
  · obtain ⟨d, e, k⟩ := out_opt h
    obtain ⟨p, vs, rfl, hp, hs⟩ := dt_lst gh bh d1
    obtain ⟨v, hv, n, hd⟩ := atI_dts hs e
    exact .inl (.inl ⟨p, vs, _, v, rfl, dt_int d2, hp, hv, k.given gh hd (Fresh.of n)⟩)
  · obtain ⟨d, e, k⟩ := out_opt h
    obtain ⟨o, e, eo⟩ := Option.bind_eq_some_iff.mp e
    obtain ⟨a, r, rfl, g, _, i2⟩ := dget_dt gh bh d1 d2 e
    obtain ⟨v, rfl, n, hd⟩ := i2 _ eo
    exact .inr ⟨a, v, rfl, g, k.given gh hd (Fresh.of n)⟩⟩

/-! ### x in y -/
noncomputable def inB (x y : D) : Option Bool := match y with
  | .str z => (match x with | .str ⟨⟨[c]⟩⟩ => some (decide (c ∈ z.cps.toList)) | _ => none)
  | .tup ds => (match flatD x, flatDs ds with | some u, some us => some (inV u us) | _, _ => none)
  | .tuk ds => (match flatD x, flatDs ds with | some u, some us => some (inV u us) | _, _ => none)
  | .lst _ ds => (match flatD x, flatDs ds with
    | some u, some us => some (inV u us)
    | _, _ => if D.ok 64 x = true ∧ D.okL 63 ds = true then some (ds.any fun z => deq z x) else none)
  | d => (dgetD d x).map Option.isSome
noncomputable def inU (x y : D) : Out Exn D := outB false (inB x y)
noncomputable def ninU (x y : D) : Out Exn D := outB true (inB x y)
noncomputable def rDIn (neg : Bool) : R2 := fun x y H Q => ∃ a o, y = .ref a ∧ DGet H a x o ∧ Q (.bl (if neg = true then !o.isSome else o.isSome)) H
theorem op_dIn (hu : X.A.units + 1 < cLine) : OpR X (compareOp .In) (rDIn false) := by
  intro pins s σ H x y v u Q I rx ry h
  obtain ⟨a, o, rfl, g, q⟩ := h
  obtain rfl : u = Value.ref a := ry
  exact d_in hu I g rx fun s3 I3 => ⟨.bl o.isSome, H, I3, rfl, by simpa using q⟩
theorem op_dNotIn (hu : X.A.units + 1 < cLine) : OpR X (compareOp .NotIn) (rDIn true) := by
  intro pins s σ H x y v u Q I rx ry h
  obtain ⟨a, o, rfl, g, q⟩ := h
  obtain rfl : u = Value.ref a := ry
  exact d_notIn hu I g rx fun s3 I3 => ⟨.bl (!o.isSome), H, I3, rfl, by simpa using q⟩
noncomputable abbrev rInU (K : PySem.W.Frag) : R2 := fun x y H Q => (∃ (c : Nat) (z : Str), x = .str ⟨#[c]⟩ ∧ y = .str z ∧ Q (.bl (decide (c ∈ z.cps.toList))) H) ∨ rIn K false x y H Q ∨ rInD K x y H Q ∨ rDIn false x y H Q
noncomputable abbrev rNotInU (K : PySem.W.Frag) : R2 := fun x y H Q => (∃ (c : Nat) (z : Str), x = .str ⟨#[c]⟩ ∧ y = .str z ∧ Q (.bl (!decide (c ∈ z.cps.toList))) H) ∨ rIn K true x y H Q ∨ rNotInD K x y H Q ∨ rDIn true x y H Q
theorem op_inU (hu : X.A.units + 65 < cLine) : OpR X (compareOp .In) (rInU X.K) := op_in_sign.or (op_in_seq.or ((op_inD hu).or (op_dIn (by omega))))
theorem op_notInU (hu : X.A.units + 65 < cLine) : OpR X (compareOp .NotIn) (rNotInU X.K) := op_notIn_sign.or (op_notIn_seq.or ((op_notInD hu).or (op_dNotIn (by omega))))
theorem pdL_any (x : D) : ∀ ds : List D, ((D.pdL ds).any fun z => PyData.eqv z (D.pd x)) = ds.any fun z => deq z x
  | [] => rfl
  | d :: ds => by
    show (PyData.eqv (D.pd d) (D.pd x) || (D.pdL ds).any _) = (deq d x || _)
    rw [pdL_any x ds]; rfl
/-- the four ways in which a membership is told -/
theorem inB_rd {G B H : Hp} {x y : V} {dx dy : D} {b : Bool} (gh : Sub G H) (bh : SmN B H) (d1 : Dt K G B H x dx) (d2 : Dt K G B H y dy) (h : inB dx dy = some b) :
    (∃ (c : Nat) (z : Str), x = .str ⟨#[c]⟩ ∧ y = .str z ∧ b = decide (c ∈ z.cps.toList)) ∨
    (∃ p xs, y = .ref p ∧ (SqL K H p xs ∨ SqT K H p xs) ∧ flatV x = true ∧ xs.all flatV = true ∧ b = inV x xs) ∨
    (∃ d ds, Dp K H x d ∧ Dp K H y (.list ds) ∧ SeqAt.shaped d = true ∧ SeqAt.shaped (.list ds) = true ∧ b = ds.any fun z => PyData.eqv z d) ∨
    ∃ a o, y = .ref a ∧ DGet H a x o ∧ b = o.isSome := by
  unfold inB at h
  split at h
  · split at h
    · rename_i c
      cases h
      exact .inl ⟨c, _, dt_str d1, dt_str d2, rfl⟩
    · cases h
  · split at h
    · rename_i e1 e2
      cases h
      obtain ⟨p, vs, rfl, hp, hp2, hs⟩ := dt_tup gh d2
      obtain ⟨rfl, f1⟩ := flat_dt d1 e1
      obtain ⟨rfl, f2⟩ := flats_dt hs e2
      exact .inr (.inl ⟨p, vs, rfl, .inr hp, f1, f2, rfl⟩)
    · cases h
  · split at h
    · rename_i e1 e2
      cases h
      obtain ⟨p, vs, rfl, hp, hs⟩ := dt_tuk gh d2
      obtain ⟨rfl, f1⟩ := flat_dt d1 e1
      obtain ⟨rfl, f2⟩ := flats_dt hs e2
      exact .inr (.inl ⟨p, vs, rfl, .inr hp, f1, f2, rfl⟩)
    · cases h
  · rename_i f ds
    split at h
    · rename_i e1 e2
      cases h
      obtain ⟨p, vs, rfl, hp, hs⟩ := dt_lst gh bh d2
      obtain ⟨rfl, f1⟩ := flat_dt d1 e1
      obtain ⟨rfl, f2⟩ := flats_dt hs e2
      exact .inr (.inl ⟨p, vs, rfl, .inl hp, f1, f2, rfl⟩)
    · by_cases hc : D.ok 64 dx = true ∧ D.okL 63 ds = true
      · rw [if_pos hc] at h
        cases h
        obtain ⟨_, d1⟩ := d1
        obtain ⟨_, d2⟩ := d2
        have o2 : D.ok 64 (.lst f ds) = true := by simpa [D.ok] using hc.2
        have e2 := dat_dp gh bh o2 d2
        have sh := ok_shaped o2
        simp only [D.pd] at e2 sh
        exact .inr (.inr (.inl ⟨_, _, dat_dp gh bh hc.1 d1, e2, ok_shaped hc.1, sh, (pdL_any _ _).symm⟩))
      · rw [if_neg hc] at h; cases h
  · cases e : dgetD dy dx with
    | none => rw [e] at h; cases h
    | some o =>
      rw [e] at h
      cases h
      obtain ⟨a, r, rfl, g, i1, i2⟩ := dget_dt gh bh d2 d1 e
      refine .inr (.inr (.inr ⟨a, r, rfl, g, ?_⟩))
      cases o with
      | none => rw [i1 rfl]; rfl
      | some e' => obtain ⟨v, rfl, _⟩ := i2 _ rfl; rfl
theorem v_in : V2 K (rInU K) inU := ⟨fun G B H x y dx dy R gh bh d1 d2 h => by
  obtain ⟨b, e, k⟩ := outB_P h
  have k' : R (.bl b) H := kq_b gh (by simpa using k)
  rcases inB_rd gh bh d1 d2 e with ⟨c, z, h1, h2, rfl⟩ | ⟨p, xs, h1, h2, h3, h4, rfl⟩ | ⟨d, ds, h1, h2, h3, h4, rfl⟩ | ⟨a, o, h1, h2, rfl⟩
  · exact .inl ⟨c, z, h1, h2, k'⟩
  · exact .inr (.inl ⟨p, xs, h1, h2, h3, h4, by simpa using k'⟩)
  · exact .inr (.inr (.inl ⟨d, ds, h1, h2, h3, h4, k'⟩))
  · exact .inr (.inr (.inr ⟨a, o, h1, h2, by simpa using k'⟩))⟩
theorem v_nin : V2 K (rNotInU K) ninU := ⟨fun G B H x y dx dy R gh bh d1 d2 h => by
  obtain ⟨b, e, k⟩ := outB_P h
  have k' : R (.bl (!b)) H := kq_b gh (by simpa using k)
  rcases inB_rd gh bh d1 d2 e with ⟨c, z, h1, h2, rfl⟩ | ⟨p, xs, h1, h2, h3, h4, rfl⟩ | ⟨d, ds, h1, h2, h3, h4, rfl⟩ | ⟨a, o, h1, h2, rfl⟩
  · exact .inl ⟨c, z, h1, h2, k'⟩
  · exact .inr (.inl ⟨p, xs, h1, h2, h3, h4, by simpa using k'⟩)
  · exact .inr (.inr (.inl ⟨d, ds, h1, h2, h3, h4, k'⟩))
  · exact .inr (.inr (.inr ⟨a, o, h1, h2, by simpa using k'⟩))⟩
end
end VL

/-! VLf: calls of builtins as functions on trees. -/
namespace VL
open PySem PySem.Spec PyProof.Rows L2
variable [LamT]

/-! ### dicts changed -/
noncomputable def putD (kvs : List (Kd × D)) (k : Kd) (d : D) : List (Kd × D) :=
  if (kvs.any fun e => decide (e.1 = k)) = true then kvs.map (fun e => if e.1 = k then (e.1, d) else e) else kvs ++ [(k, d)]
noncomputable def mergeD (kvs more : List (Kd × D)) : List (Kd × D) := more.foldl (fun acc e => putD acc e.1 e.2) kvs
section
variable {K : PySem.W.Frag} {G B H : Hp}
theorem Dtm.append : ∀ {vs : List (Kd × V)} {ds : List (Kd × D)} {ws : List (Kd × V)} {es : List (Kd × D)}, Dtm K G B H vs ds → Dtm K G B H ws es → Dtm K G B H (vs ++ ws) (ds ++ es)
  | [], [], _, _, _, h => h
  | [], d :: ds, _, _, h, _ => by have := h.length; simp at this
  | v :: vs, [], _, _, h, _ => by have := h.length; simp at this
  | (k, v) :: vs, (k', d) :: ds, _, _, h, h' => by
    obtain ⟨rfl, n, h1, h2⟩ := h.uncons
    exact Dtm.cons n h1 (Dtm.append h2 h')
theorem dtm_any {κ : Type} [DecidableEq κ] {f : κ → Kd} (hf : ∀ a b, f a = f b → a = b) {k : κ} : ∀ {vs : List (κ × V)} {ds : List (Kd × D)}, Dtm K G B H (vs.map fun e => (f e.1, e.2)) ds → (vs.any fun e => decide (e.1 = k)) = ds.any fun e => decide (e.1 = f k)
  | [], [], _ => rfl
  | [], d :: ds, h => by have := h.length; simp at this
  | v :: vs, [], h => by have := h.length; simp at this
  | (k0, v) :: vs, (k', d) :: ds, h => by
    obtain ⟨rfl, n, h1, h2⟩ := Dtm.uncons (k := f k0) (v := v) (vs := vs.map fun e => (f e.1, e.2)) h
    rw [List.any_cons, List.any_cons, dtm_any hf h2]
    have : decide (k0 = k) = decide (f k0 = f k) := by
      by_cases e : k0 = k
      · subst e; simp
      · rw [decide_eq_false e, decide_eq_false fun z => e (hf _ _ z)]
    rw [this]
theorem dtm_swap {κ : Type} [DecidableEq κ] {f : κ → Kd} (hf : ∀ a b, f a = f b → a = b) {k : κ} {v : V} {d : D} (n : d.old) (hd : Dt K G B H v d) : ∀ {vs : List (κ × V)} {ds : List (Kd × D)}, Dtm K G B H (vs.map fun e => (f e.1, e.2)) ds →
    Dtm K G B H ((vs.map fun e => if e.1 = k then (e.1, v) else e).map fun e => (f e.1, e.2)) (ds.map fun e => if e.1 = f k then (e.1, d) else e)
  | [], [], _ => Dtm.nil
  | [], d :: ds, h => by have := h.length; simp at this
  | v :: vs, [], h => by have := h.length; simp at this
  | (k0, v0) :: vs, (k', d0) :: ds, h => by
    obtain ⟨rfl, n0, h1, h2⟩ := Dtm.uncons (k := f k0) (v := v0) (vs := vs.map fun e => (f e.1, e.2)) h
    have ih := dtm_swap hf (k := k) n hd h2
    by_cases e : k0 = k
    · subst e
      simp only [List.map_cons, if_true]
      exact Dtm.cons n hd ih
    · have e2 : ¬ f k0 = f k := fun z => e (hf _ _ z)
      simp only [List.map_cons, e, e2, if_false]
      exact Dtm.cons n0 h1 ih
theorem dtm_put {κ : Type} [DecidableEq κ] {f : κ → Kd} (hf : ∀ a b, f a = f b → a = b) {k : κ} {v : V} {d : D} {vs : List (κ × V)} {ds : List (Kd × D)} (h : Dtm K G B H (vs.map fun e => (f e.1, e.2)) ds) (n : d.old) (hd : Dt K G B H v d) :
    Dtm K G B H ((putK vs k v).map fun e => (f e.1, e.2)) (putD ds (f k) d) := by
  unfold putK putD
  rw [← dtm_any hf (k := k) h]
  split
  · exact dtm_swap hf n hd h
  · rw [List.map_append]
    exact h.append (Dtm.cons n hd Dtm.nil)
theorem inj_k : ∀ a b : Key, Kd.k a = Kd.k b → a = b := fun a b e => by simpa using e
theorem dtm_merge : ∀ {more : List (Key × V)} {mds : List (Kd × D)} {vs : List (Key × V)} {ds : List (Kd × D)}, Dtm K G B H (more.map kK) mds → Dtm K G B H (vs.map kK) ds → Dtm K G B H ((mergeK vs more).map kK) (mergeD ds mds)
  | [], [], _, _, _, h => h
  | [], d :: ds, _, _, h, _ => by have := h.length; simp at this
  | v :: vs, [], _, _, h, _ => by have := h.length; simp at this
  | (k, v) :: more, (k', d) :: mds, vs, ds, h, r => by
    obtain ⟨rfl, n, h1, h2⟩ := Dtm.uncons (k := .k k) (v := v) (vs := more.map kK) h
    exact dtm_merge (vs := putK vs k v) (ds := putD ds (.k k) d) h2 (dtm_put (f := Kd.k) inj_k r n h1)
theorem dtm_keys : ∀ {vs : List (Key × V)} {ds : List (Kd × D)}, Dtm K G B H (vs.map kK) ds → Dts K G B H (vs.map fun e => kV e.1) (ds.map fun e => kdD e.1)
  | [], [], _ => Dts.nil
  | [], d :: ds, h => by have := h.length; simp at this
  | v :: vs, [], h => by have := h.length; simp at this
  | (k, v) :: vs, (k', d) :: ds, h => by
    obtain ⟨rfl, n, h1, h2⟩ := Dtm.uncons (k := .k k) (v := v) (vs := vs.map kK) h
    exact Dts.cons (kD_dt (K := K) (G := G) (B := B) (H := H) k).1 (kD_dt k).2 (dtm_keys h2)
theorem KQ.floorD {R : VK} {p : Addr} {vs : List (Key × V)} {ds : List (Kd × D)} (gh : Sub G H) (hp : H p = none) (hd : Dtm K G B H (vs.map kK) ds) (k : KQ K G B H R (.dic .new ds)) : R (.ref p) (upd H p (.dK vs)) := by
  have e := Ext.lay (o := .dK vs) gh hp
  obtain ⟨S, h⟩ := Dtm.ext e hd
  exact k G _ _ e ⟨_, .dic (f := .new) (.inl upd_same) h⟩ fun _ => ⟨p, rfl, hp, (gh.n.z _ hp)⟩
end

/-! ### len, list, tuple, dict -/
noncomputable def lenN : D → Option Nat
  | .str z => if z.length ≤ sizeLine then some z.length else none
  | .lst _ ds => some ds.length
  | .tup ds => some ds.length
  | .tuk ds => some ds.length
  | .dic _ kvs => some kvs.length
  | .dit _ kvs => some kvs.length
  | _ => none
noncomputable def lenV : List D → Out Exn D
  | [d] => ofO ((lenN d).map fun n => .int (n : Nat))
  | _ => .no
noncomputable def pairsD : List D → Option (List (Kd × D))
  | [] => some []
  | .tup [k, d] :: r => match keyK k, pairsD r with
    | some k, some kvs => some ((.k k, d) :: kvs)
    | _, _ => none
  | _ :: _ => none
noncomputable def listV : List D → Out Exn D
  | [.lst _ ds] => .ok (.lst .new ds)
  | [.tup ds] => .ok (.lst .new ds)
  | [.dic _ kvs] => .ok (.lst .new (kvs.map fun e => kdD e.1))
  | _ => .no
noncomputable def tupleV : List D → Out Exn D
  | [.lst _ ds] => .ok (.tup ds)
  | [.tup ds] => .ok (.tup ds)
  | _ => .no
noncomputable def dictV : List D → Out Exn D
  | [.lst _ ds] => ofO ((pairsD ds).map fun kvs => .dic .new (mergeD [] kvs))
  | [.dic _ kvs] => .ok (.dic .new kvs)
  | _ => .no
section
variable {K : PySem.W.Frag} {X : Cx}
theorem call_lenDR : CallR X (.builtin "len") (fun xs H Q => ∃ p kvs, xs = [V.ref p] ∧ Rd H p (.dK kvs) ∧ Q (.int (kvs.length : Nat)) H) := by
  intro pins s σ H xs us Q I r h
  obtain ⟨p, kvs, rfl, hp, q⟩ := h
  obtain ⟨u, rfl, rx⟩ := vals1 r
  cases rx
  exact d_len I hp fun t s' I' => ⟨.int (kvs.length : Nat), H, I', ⟨t, rfl⟩, q⟩
theorem call_lenTR : CallR X (.builtin "len") (fun xs H Q => ∃ p kvs, xs = [V.ref p] ∧ Rd H p (.dT kvs) ∧ Q (.int (kvs.length : Nat)) H) := by
  intro pins s σ H xs us Q I r h
  obtain ⟨p, kvs, rfl, hp, q⟩ := h
  obtain ⟨u, rfl, rx⟩ := vals1 r
  obtain rfl : u = .ref p := rx
  obtain ⟨z, hd, ys, rel, dd⟩ := dt_rd I.hok hp
  have hl : kvs.length = ys.length := Paired.length rel
  refine call_len_dictH hd dd (by rw [← hl]; rw [sizeLine_eq] at z; omega) ?_
  rw [← hl]
  exact ⟨.int ((kvs.length : Nat) : Int), H, I.tok _, ⟨_, rfl⟩, q⟩
theorem CallR.or {f : Value} {r r' : List V → Hp → VK → Prop} (h : CallR X f r) (h' : CallR X f r') : CallR X f (fun xs H Q => r xs H Q ∨ r' xs H Q) := fun pins s σ H xs us Q I rs q => q.elim (h pins s σ H xs us Q I rs) (h' pins s σ H xs us Q I rs)
noncomputable abbrev rLenU (K : PySem.W.Frag) : List V → Hp → VK → Prop := fun xs H Q => (∃ z, xs = [.str z] ∧ z.length ≤ sizeLine ∧ Q (.int z.length) H) ∨ (∃ p ys, xs = [.ref p] ∧ (SqL K H p ys ∨ SqT K H p ys) ∧ Q (.int ys.length) H) ∨
  (∃ p kvs, xs = [V.ref p] ∧ Rd H p (.dK kvs) ∧ Q (.int (kvs.length : Nat)) H) ∨ (∃ p kvs, xs = [V.ref p] ∧ Rd H p (.dT kvs) ∧ Q (.int (kvs.length : Nat)) H)
theorem call_lenU : CallR X (.builtin "len") (rLenU X.K) := call_len_str.or (call_len_seq.or (call_lenDR.or call_lenTR))
theorem v_len : Vs K (rLenU K) lenV := ⟨fun G B H xs ds R gh bh dd h => by
  unfold lenV at h
  split at h
  · rename_i d
    obtain ⟨v, rfl, hd⟩ := dts1 dd
    obtain ⟨e, en, k⟩ := out_opt h
    obtain ⟨n, eq1, rfl⟩ := Option.map_eq_some_iff.mp en
    have kk := kq_int gh k
    cases d with
    | str z =>
      simp only [lenN] at eq1
      by_cases hz : z.length ≤ sizeLine
      · rw [if_pos hz] at eq1; cases eq1; exact .inl ⟨z, by rw [dt_str hd], hz, kk⟩
      · rw [if_neg hz] at eq1; cases eq1
    | lst f ds =>
      cases eq1
      obtain ⟨p, vs, rfl, hp, hs⟩ := dt_lst gh bh hd
      exact .inr (.inl ⟨p, vs, rfl, .inl hp, by rw [hs.length]; exact kk⟩)
    | tup ds =>
      cases eq1
      obtain ⟨p, vs, rfl, hp, _, hs⟩ := dt_tup gh hd
      exact .inr (.inl ⟨p, vs, rfl, .inr hp, by rw [hs.length]; exact kk⟩)
    | tuk ds =>
      cases eq1
      obtain ⟨p, vs, rfl, hp, hs⟩ := dt_tuk gh hd
      exact .inr (.inl ⟨p, vs, rfl, .inr hp, by rw [hs.length]; exact kk⟩)
    | dic f ds =>
      cases eq1
      obtain ⟨p, vs, rfl, hp, hs⟩ := dt_dic gh bh hd
      exact .inr (.inr (.inl ⟨p, vs, rfl, hp, by have := hs.length; rw [List.length_map] at this; rw [this]; exact kk⟩))
    | dit f ds =>
      cases eq1
      obtain ⟨p, vs, rfl, hp, hs⟩ := dt_dit gh bh hd
      exact .inr (.inr (.inr ⟨p, vs, rfl, hp, by have := hs.length; rw [List.length_map] at this; rw [this]; exact kk⟩))
    | _ => cases eq1
  · exact h.elim⟩
noncomputable abbrev rListU (K : PySem.W.Frag) : List V → Hp → VK → Prop := fun xs H Q => (∃ p ys, xs = [.ref p] ∧ (SqL K H p ys ∨ SqT K H p ys) ∧ ∀ l, H l = none → Q (.ref l) (upd H l (.lst ys))) ∨
  (∃ (a : Addr) (kvs : List (Key × V)), xs = [.ref a] ∧ Rd H a (.dK kvs) ∧ ∀ p, H p = none → Q (.ref p) (upd H p (.lst (kvs.map fun kv => kV kv.1))))
theorem call_listU (hc : X.calm = true) : CallR X (.type "list") (rListU X.K) := call_list_of.or (call_listD hc)
theorem v_list : Vs K (rListU K) listV := ⟨fun G B H xs ds R gh bh dd h => by
  unfold listV at h
  split at h
  · obtain ⟨v, rfl, hd⟩ := dts1 dd
    obtain ⟨p, vs, rfl, hp, hs⟩ := dt_lst gh bh hd
    exact .inl ⟨p, vs, rfl, .inl hp, fun l hl => KQ.floorL gh hl hs h⟩
  · obtain ⟨v, rfl, hd⟩ := dts1 dd
    obtain ⟨p, vs, rfl, hp, _, hs⟩ := dt_tup gh hd
    exact .inl ⟨p, vs, rfl, .inr hp, fun l hl => KQ.floorL gh hl hs h⟩
  · obtain ⟨v, rfl, hd⟩ := dts1 dd
    obtain ⟨p, vs, rfl, hp, hs⟩ := dt_dic gh bh hd
    exact .inr ⟨p, vs, rfl, hp, fun l hl => KQ.floorL gh hl (dtm_keys hs) h⟩
  · exact h.elim⟩
theorem v_tuple : Vs K (fun xs H Q => ∃ p ys, xs = [.ref p] ∧ ((SqL K H p ys ∧ ∀ l, H l = none → Q (.ref l) (upd H l (.tup ys))) ∨ (SqT K H p ys ∧ Q (.ref p) H))) tupleV := ⟨fun G B H xs ds R gh bh dd h => by
  unfold tupleV at h
  split at h
  · obtain ⟨v, rfl, hd⟩ := dts1 dd
    obtain ⟨p, vs, rfl, hp, hs⟩ := dt_lst gh bh hd
    exact ⟨p, vs, rfl, .inl ⟨hp, fun l hl => KQ.floorT gh hl hs h⟩⟩
  · obtain ⟨v, rfl, hd⟩ := dts1 dd
    obtain ⟨p, vs, rfl, hp, _, hs⟩ := dt_tup gh hd
    exact ⟨p, vs, rfl, .inr ⟨hp, KQ.given gh h hd (Fresh.of (by simp [D.root]))⟩⟩
  · exact h.elim⟩
theorem pairs_dts {G B H : Hp} (gh : Sub G H) : ∀ {vs : List V} {ds : List D} {kvs : List (Kd × D)}, Dts K G B H vs ds → pairsD ds = some kvs → ∃ (ps : List Addr) (ws : List (Key × V)), vs = ps.map V.ref ∧ Paired (fun p kv => SqT K H p [kV kv.1, kv.2]) ps ws ∧ Dtm K G B H (ws.map kK) kvs
  | [], [], kvs, _, e => by cases e; exact ⟨[], [], rfl, .nil, Dtm.nil⟩
  | [], d :: ds, _, h, _ => by have := h.length; simp at this
  | v :: vs, [], _, h, _ => by have := h.length; simp at this
  | v :: vs, d :: ds, kvs, h, e => by
    obtain ⟨_, hh, t⟩ := h.uncons
    unfold pairsD at e
    split at e
    · rename_i heq; cases heq
    · rename_i k d' r heq
      cases heq
      cases e1 : keyK k with
      | none => rw [e1] at e; cases e
      | some k' =>
        cases e2 : pairsD ds with
        | none => rw [e1, e2] at e; cases e
        | some kvs' =>
          rw [e1, e2] at e
          cases e
          obtain ⟨ps, ws, rfl, h1, h2⟩ := pairs_dts gh t e2
          obtain ⟨p, us, rfl, hT, _, hs⟩ := dt_tup gh hh
          match us, hs with
          | [u, w], hs =>
            obtain ⟨_, hu, hs⟩ := hs.uncons
            obtain ⟨n, hw, _⟩ := hs.uncons
            have := key_dt hu e1
            subst this
            exact ⟨p :: ps, (k', w) :: ws, rfl, .cons hT h1, Dtm.cons n hw h2⟩
          | [], hs => have := hs.length; simp at this
          | [_], hs => have := hs.length; simp at this
          | _ :: _ :: _ :: _, hs => have := hs.length; simp at this
    · cases e
noncomputable abbrev rDictU (K : PySem.W.Frag) : List V → Hp → VK → Prop := fun xs H Q => (∃ (a : Addr) (ps : List Addr) (kvs : List (Key × V)), xs = [.ref a] ∧ SqL K H a (ps.map V.ref) ∧ Paired (fun p kv => SqT K H p [kV kv.1, kv.2]) ps kvs ∧ ∀ p, H p = none → Q (.ref p) (upd H p (.dK (mergeK [] kvs)))) ∨
  (∃ (a : Addr) (kvs : List (Key × V)), xs = [.ref a] ∧ Rd H a (.dK kvs) ∧ ∀ p, H p = none → Q (.ref p) (upd H p (.dK kvs)))
theorem call_dictU (hc : X.calm = true) : CallR X (.type "dict") (rDictU X.K) := (call_dictP hc).or call_dictD
theorem v_dict : Vs K (rDictU K) dictV := ⟨fun G B H xs ds R gh bh dd h => by
  unfold dictV at h
  split at h
  · obtain ⟨v, rfl, hd⟩ := dts1 dd
    obtain ⟨p, vs, rfl, hp, hs⟩ := dt_lst gh bh hd
    obtain ⟨e, en, k⟩ := out_opt h
    obtain ⟨kvs, eq1, rfl⟩ := Option.map_eq_some_iff.mp en
    obtain ⟨ps, ws, rfl, h1, h2⟩ := pairs_dts gh hs eq1
    exact .inl ⟨p, ps, ws, rfl, hp, h1, fun q hq => KQ.floorD gh hq (dtm_merge h2 Dtm.nil) k⟩
  · obtain ⟨v, rfl, hd⟩ := dts1 dd
    obtain ⟨p, vs, rfl, hp, hs⟩ := dt_dic gh bh hd
    exact .inr ⟨p, vs, rfl, hp, fun q hq => KQ.floorD gh hq hs h⟩
  · exact h.elim⟩

/-! ### all, any, sum, max, min -/
noncomputable def blsD : List D → Option (List Bool)
  | [] => some []
  | .bl b :: ds => (blsD ds).map (b :: ·)
  | _ :: _ => none
noncomputable def intsD : List D → Option (List Int)
  | [] => some []
  | .int b :: ds => (intsD ds).map (b :: ·)
  | _ :: _ => none
noncomputable def strsD : List D → Option (List Str)
  | [] => some []
  | .str b :: ds => (strsD ds).map (b :: ·)
  | _ :: _ => none
theorem bls_dts {G B H : Hp} : ∀ {vs : List V} {ds : List D} {bs : List Bool}, Dts K G B H vs ds → blsD ds = some bs → vs = bs.map V.bl
  | [], [], _, _, e => by cases e; rfl
  | [], d :: ds, _, h, _ => by have := h.length; simp at this
  | v :: vs, [], _, h, _ => by have := h.length; simp at this
  | v :: vs, d :: ds, bs, h, e => by
    obtain ⟨_, h, t⟩ := h.uncons
    cases d with
    | bl b =>
      obtain ⟨cs, e2, rfl⟩ := Option.map_eq_some_iff.mp (show (blsD ds).map (b :: ·) = some bs from e)
      rw [dt_bl h, bls_dts t e2] <;> rfl
    | _ => cases e
theorem ints_dts {G B H : Hp} : ∀ {vs : List V} {ds : List D} {bs : List Int}, Dts K G B H vs ds → intsD ds = some bs → vs = bs.map V.int
  | [], [], _, _, e => by cases e; rfl
  | [], d :: ds, _, h, _ => by have := h.length; simp at this
  | v :: vs, [], _, h, _ => by have := h.length; simp at this
  | v :: vs, d :: ds, bs, h, e => by
    obtain ⟨_, h, t⟩ := h.uncons
    cases d with
    | int b =>
      obtain ⟨cs, e2, rfl⟩ := Option.map_eq_some_iff.mp (show (intsD ds).map (b :: ·) = some bs from e)
      rw [dt_int h, ints_dts t e2] <;> rfl
    | _ => cases e
theorem strs_dts {G B H : Hp} : ∀ {vs : List V} {ds : List D} {bs : List Str}, Dts K G B H vs ds → strsD ds = some bs → vs = bs.map V.str
  | [], [], _, _, e => by cases e; rfl
  | [], d :: ds, _, h, _ => by have := h.length; simp at this
  | v :: vs, [], _, h, _ => by have := h.length; simp at this
  | v :: vs, d :: ds, bs, h, e => by
    obtain ⟨_, h, t⟩ := h.uncons
    cases d with
    | str b =>
      obtain ⟨cs, e2, rfl⟩ := Option.map_eq_some_iff.mp (show (strsD ds).map (b :: ·) = some bs from e)
      rw [dt_str h, strs_dts t e2] <;> rfl
    | _ => cases e
theorem blsD_map (bs : List Bool) : blsD (bs.map D.bl) = some bs := by
  induction bs with
  | nil => rfl
  | cons b bs ih => simp [blsD, ih]
theorem intsD_map (bs : List Int) : intsD (bs.map D.int) = some bs := by
  induction bs with
  | nil => rfl
  | cons b bs ih => simp [intsD, ih]
theorem strsD_map (bs : List Str) : strsD (bs.map D.str) = some bs := by
  induction bs with
  | nil => rfl
  | cons b bs ih => simp [strsD, ih]
noncomputable def allV : List D → Out Exn D
  | [.lst _ ds] => ofO ((blsD ds).map fun bs => .bl (bs.all id))
  | _ => .no
noncomputable def anyV : List D → Out Exn D
  | [.lst _ ds] => ofO ((blsD ds).map fun bs => .bl (bs.any id))
  | _ => .no
noncomputable def maxI : List Int → Int
  | [] => 0
  | [a] => a
  | a :: b :: r => max a (maxI (b :: r))
theorem maxI_mem : ∀ {xs : List Int}, xs ≠ [] → maxI xs ∈ xs ∧ ∀ y ∈ xs, y ≤ maxI xs
  | [a], _ => ⟨by simp [maxI], fun y h => by simp at h; subst h; simp [maxI]⟩
  | a :: b :: r, _ => by
    obtain ⟨h1, h2⟩ := maxI_mem (xs := b :: r) (by simp)
    simp only [maxI]
    refine ⟨?_, fun y hy => ?_⟩
    · by_cases h : a ≤ maxI (b :: r)
      · rw [Int.max_eq_right h]; exact List.mem_cons_of_mem _ h1
      · rw [Int.max_eq_left (by omega)]; exact List.mem_cons_self
    · rcases List.mem_cons.mp hy with rfl | hy
      · exact Int.le_max_left _ _
      · exact Int.le_trans (h2 y hy) (Int.le_max_right _ _)
theorem v_all : Vs K (rAll K) allV := ⟨fun G B H xs ds R gh bh dd h => by
  unfold allV at h
  split at h
  · obtain ⟨v, rfl, hd⟩ := dts1 dd
    obtain ⟨p, vs, rfl, hp, hs⟩ := dt_lst gh bh hd
    obtain ⟨e, en, k⟩ := out_opt h
    obtain ⟨bs, eq1, rfl⟩ := Option.map_eq_some_iff.mp en
    have := bls_dts hs eq1
    subst this
    exact ⟨p, bs, rfl, hp, kq_b gh k⟩
  · exact h.elim⟩
theorem v_any : Vs K (rAny K) anyV := ⟨fun G B H xs ds R gh bh dd h => by
  unfold anyV at h
  split at h
  · obtain ⟨v, rfl, hd⟩ := dts1 dd
    obtain ⟨p, vs, rfl, hp, hs⟩ := dt_lst gh bh hd
    obtain ⟨e, en, k⟩ := out_opt h
    obtain ⟨bs, eq1, rfl⟩ := Option.map_eq_some_iff.mp en
    have := bls_dts hs eq1
    subst this
    exact ⟨p, bs, rfl, hp, kq_b gh k⟩
  · exact h.elim⟩
/-! ### abs, int, str -/
end
end VL

/-! VLg: kinds, sorted, slices, texts, sizes of sets. -/
namespace VL
open PySem PySem.Spec PyProof.Rows L2
variable [LamT]

/-! ### isinstance, of plain things -/
noncomputable def tyD : D → Option String
  | .non => some "NoneType"
  | .bl _ => some "bool"
  | .int _ => some "int"
  | .str _ => some "str"
  | .lst f _ => if f = .loc then none else some "list"
  | .tup _ => some "tuple"
  | .dic _ _ => some "dict"
  | _ => none
noncomputable def isiV : List D → Out Exn D
  | [d, .ty t] => ofO (((tyD d).bind fun s => kitB s t).map .bl)
  | _ => .no
section
variable {K : PySem.W.Frag} {X : Cx}
theorem sqT_ty {H : Hp} {a : Addr} {xs : List V} (h : SqT K H a xs) : TyX K H (.ref a) (.type "tuple") := by
  rcases h with (h | ⟨o, h⟩) | ⟨o, its, n, h, hc, _⟩
  · exact .base (.tup h)
  · exact .fTuple h
  · exact .kTuple h hc
theorem tyD_at {G B H : Hp} {v : V} {d : D} {t : String} (gh : Sub G H) (bh : SmN B H) (hd : Dt K G B H v d) (h : tyD d = some t) : TyX K H v (.type t) := by
  cases d with
  | non => cases h; rw [dt_non hd]; exact .base .non
  | bl b => cases h; rw [dt_bl hd]; exact .base (.bl b)
  | int b => cases h; rw [dt_int hd]; exact .base (.int b)
  | str b => cases h; rw [dt_str hd]; exact .base (.str b)
  | lst f ds =>
    simp only [tyD] at h
    by_cases hf : f = .loc
    · rw [if_pos hf] at h; cases h
    · rw [if_neg hf] at h
      cases h
      obtain ⟨p, vs, rfl, hp, _⟩ := dt_lstX gh bh hf hd
      exact .base (.lst hp)
  | tup ds =>
    cases h
    obtain ⟨p, vs, rfl, hp, _⟩ := dt_tup gh hd
    exact sqT_ty hp
  | dic f ds =>
    cases h
    obtain ⟨p, vs, rfl, hp, _⟩ := dt_dic gh bh hd
    rcases hp with h | ⟨o, h⟩
    · exact .base (.dK h)
    · exact .fDict h
  | tuk _ => cases h
  | dit _ _ => cases h
  | din _ _ => cases h
  | ty _ => cases h
  | ref _ => cases h
  | xc _ _ _ => cases h
  | clo _ _ _ => cases h
  | obj _ _ _ => cases h
theorem v_isi : Vs K (rIsi K) isiV := ⟨fun G B H xs ds R gh bh dd h => by
  unfold isiV at h
  split at h
  · obtain ⟨v, w, rfl, hv, hw⟩ := dts2 dd
    obtain ⟨e, eq0, k⟩ := out_opt h
    obtain ⟨b, eq1, rfl⟩ := Option.map_eq_some_iff.mp eq0
    obtain ⟨s, e1, e2⟩ := Option.bind_eq_some_iff.mp eq1
    have := dt_ty hw
    subst this
    exact ⟨v, .ty _, .type s, .type _, b, rfl, .ty _, tyD_at gh bh hv e1, kit_ty e2, kq_b gh k⟩
  · exact h.elim⟩

/-! ### sorted -/
/-- the order of trees -/
noncomputable def leD : D → D → Bool := PySem.W.dataLe false D.pd
noncomputable abbrev leB : V × D → V × D → Bool := PySem.W.dataLe false fun b => D.pd b.2
noncomputable def rSortB (K : PySem.W.Frag) : List V → Hp → VK → Prop := fun xs H Q => ∃ (a : Addr) (bs : List (V × D)), xs = [.ref a] ∧ SqL K H a (bs.map (·.1)) ∧ (∀ b ∈ bs, Dp K H b.1 (D.pd b.2) ∧ (D.pd b.2).depth ≤ 60) ∧ PySem.W.AllAlike (bs.map fun b => D.pd b.2) ∧ PySem.W.Sortable (bs.map fun b => D.pd b.2) ∧
  ∀ p, H p = none → Q (.ref p) (upd H p (.lst ((bs.mergeSort leB).map (·.1))))
theorem each_vals : ∀ {bs : List (V × D)} {us : List Value}, Vals (bs.map (·.1)) us → PySem.W.EachIs (fun u b => RelV b.1 u) us bs
  | [], _, h => by cases h; exact .nil
  | b :: bs, _, h => by
    cases h with
    | cons h1 t => exact .cons h1 (each_vals t)
theorem vals_each : ∀ {bs : List (V × D)} {us : List Value}, PySem.W.EachIs (fun u b => RelV b.1 u) us bs → Vals (bs.map (·.1)) us
  | [], _, h => by cases h; exact .nil
  | b :: bs, _, h => by
    cases h with
    | cons h1 t => exact .cons h1 (vals_each t)
theorem each_reads {pins : List (Addr × Obj)} {σ : L2.St} {H : Hp} {s : Shared} (I : Inv X pins σ H s) : ∀ {bs : List (V × D)} {us : List Value}, (∀ b ∈ bs, Dp X.K H b.1 (D.pd b.2)) → Vals (bs.map (·.1)) us → PySem.W.EachIs (fun u (b : V × D) => ∃ as, Reads s.heap u (D.pd b.2) as) us bs
  | [], _, _, h => by cases h; exact .nil
  | b :: bs, _, hb, h => by
    cases h with
    | cons h1 t => exact .cons (Dp.reads I _ _ _ (hb b List.mem_cons_self) h1) (each_reads I (fun c hc => hb c (List.mem_cons_of_mem _ hc)) t)
theorem cr_sortB (hu : X.A.units + 65 < cLine) : CallR X (.builtin "sorted") (rSortB X.K) := by
  intro pins s σ H vs us Q I r h
  obtain ⟨a, bs, rfl, hs, hb, hal, hk, q⟩ := h
  obtain ⟨its, rv, hl, hz⟩ := I.list hs
  rw [Vals.ref1 r]
  refine PySem.W.sorted_data (R := fun u b => RelV b.1 u) (bs := bs) (enc := fun b => D.pd b.2) hl.isList (each_vals rv) (each_reads I (fun b h => (hb b h).1) rv) hal hk (by rw [← List.length_map (as := bs) (·.1)]; exact hz) (fun b h => by have := (hb b h).2; omega) fun out ho eo => ?_
  obtain ⟨ep, he'⟩ := PyProof.Rows.sortedAll_at s.heap its out.toArray
  have hlen : ((bs.mergeSort leB).map (·.1)).length ≤ sizeLine := by
    rw [List.length_map, List.length_mergeSort, ← List.length_map (as := bs) (·.1)]; exact hz
  exact ⟨.ref _, upd H (s.heap.objs.size + 1) (.lst ((bs.mergeSort leB).map (·.1))), I.laid (t' := s.toks) (fun _ _ => PyProof.Rows.sortedAll_old) (Nat.le_succ _) ⟨hlen, out, ep, vals_each eo, he'⟩, rfl, q _ (I.hok.fresh (Nat.le_succ _))⟩
noncomputable def SortOk (ds : List D) : Prop := D.okL 60 ds = true ∧ PySem.W.AllAlike (ds.map D.pd) ∧ PySem.W.Sortable (ds.map D.pd)
open Classical in
noncomputable def sortV : List D → Out Exn D
  | [.lst _ ds] => if SortOk ds then .ok (.lst .new (ds.mergeSort leD)) else .no
  | _ => .no
theorem zip_dts {G B H : Hp} : ∀ {vs : List V} {ds : List D}, Dts K G B H vs ds → ∃ bs : List (V × D), bs.map (·.1) = vs ∧ bs.map (·.2) = ds ∧ ∀ b ∈ bs, b.2.old ∧ Dt K G B H b.1 b.2
  | [], [], _ => ⟨[], rfl, rfl, fun b hb => nomatch hb⟩
  | [], d :: ds, h => by have := h.length; simp at this
  | v :: vs, [], h => by have := h.length; simp at this
  | v :: vs, d :: ds, h => by
    obtain ⟨n, h, t⟩ := h.uncons
    obtain ⟨bs, e1, e2, e3⟩ := zip_dts t
    exact ⟨(v, d) :: bs, by rw [List.map_cons, e1], by rw [List.map_cons, e2], fun b hb => by
      rcases List.mem_cons.mp hb with e | hb
      · subst e; exact ⟨n, h⟩
      · exact e3 b hb⟩
theorem dts_zip {G B H : Hp} : ∀ {bs : List (V × D)}, (∀ b ∈ bs, b.2.old ∧ Dt K G B H b.1 b.2) → Dts K G B H (bs.map (·.1)) (bs.map (·.2))
  | [], _ => Dts.nil
  | b :: bs, h => Dts.cons (h b List.mem_cons_self).1 (h b List.mem_cons_self).2 (dts_zip fun c hc => h c (List.mem_cons_of_mem _ hc))
theorem okL_mem {n : Nat} : ∀ {ds : List D}, D.okL n ds = true → ∀ d ∈ ds, D.ok n d = true
  | [], _, d, hd => nomatch hd
  | e :: ds, h, d, hd => by
    rw [D.okL, Bool.and_eq_true] at h
    rcases List.mem_cons.mp hd with q | q
    · subst q; exact h.1
    · exact okL_mem h.2 d q
theorem v_sort : Vs K (rSortB K) sortV := ⟨fun G B H xs ds R gh bh dd h => by
  unfold sortV at h
  split at h
  · rename_i f ds
    obtain ⟨v, rfl, hd⟩ := dts1 dd
    by_cases hc : SortOk ds
    case neg => rw [if_neg hc] at h; exact h.elim
    rw [if_pos hc] at h
    obtain ⟨e3, e4, e5⟩ := hc
    have k : KQ K G B H R (.lst .new (ds.mergeSort leD)) := h
    obtain ⟨a, vs, rfl, hS, hs⟩ := dt_lst gh bh hd
    obtain ⟨bs, b1, b2, b3⟩ := zip_dts hs
    subst b1 b2
    have em : (bs.map fun b => D.pd b.2) = (bs.map (·.2)).map D.pd := by rw [List.map_map]; rfl
    have hok : ∀ b ∈ bs, D.ok 60 b.2 = true := fun b hb => okL_mem e3 _ (List.mem_map.mpr ⟨b, hb, rfl⟩)
    refine ⟨a, bs, rfl, hS, fun b hb => ⟨let ⟨_, hd⟩ := (b3 b hb).2; dat_dp gh bh (hok b hb) hd, (ok_shape 60 _ (hok b hb)).2⟩, by rw [em]; exact e4, by rw [em]; exact e5, fun p hp => ?_⟩
    have es : (bs.mergeSort leB).map (·.2) = (bs.map (·.2)).mergeSort leD := List.map_mergeSort fun x _ y _ => rfl
    rw [← es] at k
    exact KQ.floorL gh hp (dts_zip fun b hb => b3 b ((List.mergeSort_perm bs leB).mem_iff.mp hb)) k
  · exact h.elim⟩

/-! ### slices -/
noncomputable def cutG {α : Type} (xs : List α) (lo hi : Option Int) : List α := (xs.drop (HT.sIx xs.length 0 lo)).take (HT.sIx xs.length xs.length hi - HT.sIx xs.length 0 lo)
noncomputable def slV (x : D) (lo hi : Option Int) : Out Exn D := match x with
  | .lst _ ds => .ok (.lst .new (cutG ds lo hi))
  | .tup ds => .ok (.tup (cutG ds lo hi))
  | .str z => if z.length ≤ sizeLine then .ok (.str (cutS z lo hi)) else .no
  | _ => .no
noncomputable abbrev rSlU (K : PySem.W.Frag) : V → Option Int → Option Int → Hp → VK → Prop := fun x lo hi H Q => rSlL K x lo hi H Q ∨ rSlA K x lo hi H Q ∨ rSlS x lo hi H Q
theorem sl_U : SlR X (rSlU X.K) := sl_list.or (sl_tupA.or sl_str)
theorem v_sl : VSl K (rSlU K) slV := ⟨fun G B H x dx lo hi R gh bh hd h => by
  unfold slV at h
  split at h
  · obtain ⟨a, vs, rfl, hL, hs⟩ := dt_lst gh bh hd
    refine .inl ⟨a, vs, rfl, hL, fun p hp => KQ.floorL gh hp ?_ h⟩
    unfold cutV cutG
    rw [hs.length]
    exact (hs.drop _).take _
  · rename_i ds
    obtain ⟨a, vs, rfl, hT, _, hs⟩ := dt_tup gh hd
    have hl := hs.length
    refine .inr (.inl ⟨a, vs, rfl, hT, fun hw => ?_, fun _ p hp => KQ.floorT gh hp ?_ h⟩)
    · have : cutG ds lo hi = ds := by
        unfold cutG
        rw [← hl, hw.1, hw.2, List.drop_zero, Nat.sub_zero, hl, List.take_length]
      rw [this] at h
      exact KQ.given gh h hd (Fresh.of (by simp [D.root]))
    · unfold cutV cutG
      rw [hl]
      exact (hs.drop _).take _
  · obtain ⟨hz, k⟩ := out_if h
    exact .inr (.inr ⟨_, dt_str hd, hz, kq_s gh k⟩)
  · exact h.elim⟩
/-! ### texts -/
end

/-! ### len(set(xs)), xs a list of tuples of texts -/
theorem calm_str {P : Program} {w : World} : SG.Calm (PySem.strKind P w) := ⟨fun n k v h => by
  obtain ⟨t, rfl⟩ := Value.isStrOf_shape h
  cases n <;> rfl, fun n k v h => by
  obtain ⟨t, rfl⟩ := Value.isStrOf_shape h
  exact ⟨false, by cases n <;> rfl⟩⟩
theorem items_strs {P : Program} {w : World} : ∀ {k : List Str} {us : List Value}, Vals (k.map V.str) us → ItemsAre (PySem.strKind P w) k us
  | [], _, h => by cases h; exact .nil
  | x :: k, _, h => by
    cases h with
    | cons h1 t =>
      obtain ⟨tk, rfl⟩ := h1
      exact .cons (by show (x == x) = true; simp) (items_strs t)
theorem refs_rows : ∀ {rows : List (Addr × List Str)} {us : List Value}, Vals (rows.map fun e => V.ref e.1) us → us = rows.map fun e => Value.ref e.1
  | [], _, h => by cases h; rfl
  | e :: rows, _, h => by
    cases h with
    | cons h1 t =>
      rw [List.map_cons, ← refs_rows t]
      exact congrArg (· :: _) h1
section
variable {X : Cx} {W : WX}
theorem inv_tup {pins : List (Addr × Obj)} {σ : L2.St} {H : Hp} {s : Shared} {b : Addr} {k : List Str} (I : Inv X pins σ H s) (h : SqT X.K H b (k.map V.str)) : SG.Tp (PySem.strKind X.prog X.w) s.heap k b := by
  obtain ⟨its, r, ⟨o, ho, hc, n, hd⟩, _⟩ := I.tuple h
  exact ⟨o, its.toArray, n, ho, hc, hd, by simpa using items_strs r⟩
noncomputable def tLenSet (K : PySem.W.Frag) (ta : TE) : TE := fun σ H Q => ta σ H fun x H1 => ∃ (l : Addr) (rows : List (Addr × List Str)), x = V.ref l ∧ SqL K H1 l (rows.map fun e => V.ref e.1) ∧ (∀ e ∈ rows, SqT K H1 e.1 (e.2.map V.str)) ∧ rows.length < 64 ∧
  ∀ ls : List (List Str), ls.Nodup → (∀ k, k ∈ ls ↔ k ∈ rows.map Prod.snd) → Q (.int ls.length) H1
theorem pe_lenSet {a : Expr} {ta : TE} {p p2 q pos : Pos} (calm : X.calm = true) (hu : X.A.units + 65 < cLine) (lm : X.mg "len" = none) (sm : X.mg "set" = none) (ha : PE X a ta) (lg : Gl X "len" := by rfl) (sg : Gl X "set" := by rfl)
    (one : starEach [a] X.env = (false, eval a X.env) :: starEach [] X.env := by rfl) : PE X (.Call (.Name "len" p) [.Call (.Name "set" p2) [a] [] q] [] pos) (tLenSet X.K ta) := by
  constructor
  intro pins s σ H Q I h
  refine Call_ (ld_blt I lg lm PySem.boot_len (PyProof.Rows.callWith_builtin1 (PyProof.Rows.args_cons (Call_ (ld_blt I sg sm PyProof.Rows.boot_set ?_)) rfl) rfl rfl))
  refine PyProof.Rows.callWith_type1 (PyProof.Rows.args_cons (thn (ha.run pins s σ H _ I h) fun v s1 ⟨x, H1, I1, r1, h1⟩ => PyProof.Rows.args_nil ?_) one) one rfl
  obtain ⟨l, rows, ex, hL, hT, few, h1⟩ := h1
  subst ex
  cases r1
  obtain ⟨its, r, pl, hz⟩ := I1.list hL
  refine SG.set_of (kd := PySem.strKind X.prog X.w) calm_str rows (I1.ok.hd calm) pl.isList (by simpa using refs_rows r) (fun e he => inv_tup I1 (hT e he)) few (by omega) fun h' tk L es ep t S g keep => ?_
  refine PyProof.Rows.args_nil ?_
  obtain ⟨o, get, ex, dat⟩ := S.obj
  have I2 : Inv X pins σ H1 { s1 with heap := h', toks := tk } := I1.kept keep
  have size := SG.ent_size S.lst
  have c := S.cap.2
  refine call_len_set get ex dat (SG.St.fits (s := { s1 with heap := h', toks := tk }) S) (by omega) ⟨.int es.size, H1, I2.tok _, ⟨_, rfl⟩, ?_⟩
  have := h1 (L.map Prod.snd) S.inj fun k => by
    constructor
    · intro hk
      obtain ⟨e, he, rfl⟩ := List.mem_map.mp hk
      exact List.mem_map.mpr ⟨e, List.mem_of_mem_take (g.only e he), rfl⟩
    · intro hk
      obtain ⟨e, he, rfl⟩ := List.mem_map.mp hk
      exact g.each e (by rw [List.take_length]; exact he)
  rw [List.length_map, ← size] at this
  exact this
noncomputable def tupS (m : List Str) : D := .tup (m.map D.str)
noncomputable def tupsD : List D → Option (List (List Str))
  | [] => some []
  | .tup ds :: r => match strsD ds, tupsD r with
    | some m, some ms => some (m :: ms)
    | _, _ => none
  | _ :: _ => none
theorem tupsD_map (ms : List (List Str)) : tupsD (ms.map tupS) = some ms := by
  induction ms with
  | nil => rfl
  | cons m ms ih =>
    show (match strsD (m.map D.str), tupsD (ms.map tupS) with | some m, some ms => some (m :: ms) | _, _ => none) = _
    rw [strsD_map, ih]
/-- each once -/
noncomputable def distinct {α : Type} [DecidableEq α] : List α → List α
  | [] => []
  | a :: r => if a ∈ r then distinct r else a :: distinct r
theorem mem_distinct {α : Type} [DecidableEq α] {k : α} : ∀ {xs : List α}, k ∈ distinct xs ↔ k ∈ xs
  | [] => by simp [distinct]
  | a :: r => by
    unfold distinct
    by_cases h : a ∈ r
    · rw [if_pos h, mem_distinct (xs := r)]
      exact ⟨fun z => List.mem_cons_of_mem _ z, fun z => by
        rcases List.mem_cons.mp z with rfl | z
        · exact h
        · exact z⟩
    · rw [if_neg h, List.mem_cons, List.mem_cons, mem_distinct (xs := r)]
theorem nodup_distinct {α : Type} [DecidableEq α] : ∀ {xs : List α}, (distinct xs).Nodup
  | [] => by simp [distinct]
  | a :: r => by
    unfold distinct
    by_cases h : a ∈ r
    · rw [if_pos h]; exact nodup_distinct
    · rw [if_neg h, List.nodup_cons]
      exact ⟨fun z => h (mem_distinct.mp z), nodup_distinct⟩
theorem distinct_id {α : Type} [DecidableEq α] : ∀ {xs : List α}, xs.Nodup → distinct xs = xs
  | [], _ => rfl
  | a :: r, h => by
    rw [List.nodup_cons] at h
    unfold distinct
    rw [if_neg h.1, distinct_id h.2]
noncomputable def qLenSet (fa : FQ) : FQ := fun ρ => (fa ρ).bind fun d => match d with
  | .lst _ ds => ofO ((tupsD ds).bind fun ks => if ks.length < 64 then some (.int ((distinct ks).length : Nat)) else none)
  | _ => .no
theorem rows_dts {K : PySem.W.Frag} {G B H : Hp} (gh : Sub G H) : ∀ {vs : List V} {ds : List D} {ks : List (List Str)}, Dts K G B H vs ds → tupsD ds = some ks → ∃ rows : List (Addr × List Str), vs = rows.map (fun e => V.ref e.1) ∧ rows.map Prod.snd = ks ∧ ∀ e ∈ rows, SqT K H e.1 (e.2.map V.str)
  | [], [], _, _, e => by cases e; exact ⟨[], rfl, rfl, fun e he => nomatch he⟩
  | [], d :: ds, _, h, _ => by have := h.length; simp at this
  | v :: vs, [], _, h, _ => by have := h.length; simp at this
  | v :: vs, d :: ds, ks, h, e => by
    obtain ⟨_, hh, t⟩ := h.uncons
    cases d with
    | tup xs =>
      simp only [tupsD] at e
      cases e1 : strsD xs with
      | none => rw [e1] at e; cases e
      | some m =>
        cases e2 : tupsD ds with
        | none => rw [e1, e2] at e; cases e
        | some ms =>
          rw [e1, e2] at e
          cases e
          obtain ⟨rows, rfl, rfl, e3⟩ := rows_dts gh t e2
          obtain ⟨a, us, rfl, e5, _, e6⟩ := dt_tup gh hh
          have e7 := strs_dts e6 e1
          subst e7
          exact ⟨(a, m) :: rows, rfl, rfl, fun e he => by
            rcases List.mem_cons.mp he with q | q
            · subst q; exact e5
            · exact e3 e q⟩
    | _ => cases e
theorem nodup_len {α : Type} [DecidableEq α] {a b : List α} (ha : a.Nodup) (hb : b.Nodup) (h : ∀ k, k ∈ a ↔ k ∈ b) : a.length = b.length := ((List.perm_ext_iff_of_nodup ha hb).mpr h).length_eq
theorem qe_lenSet {a : Expr} {fa : FQ} {p p2 q pos : Pos} (calm : X.calm = true) (hu : X.A.units + 65 < cLine) (lm : X.mg "len" = none) (sm : X.mg "set" = none) (ha : QE X W a fa) (lg : Gl X "len" := by rfl) (sg : Gl X "set" := by rfl)
    (one : starEach [a] X.env = (false, eval a X.env) :: starEach [] X.env := by rfl) : QE X W (.Call (.Name "len" p) [.Call (.Name "set" p2) [a] [] q] [] pos) (qLenSet fa) :=
  peI (pe_lenSet calm hu lm sm ha lg sg one) fun σ H R ⟨G, B, As, ρ, so, q⟩ => upQ_bind so q fun d G1 H1 v e1 hd fr q1 => by
    cases d with
    | lst f ds =>
      obtain ⟨e, eq0, k⟩ := out_opt q1
      obtain ⟨ks, e2, e3⟩ := Option.bind_eq_some_iff.mp eq0
      split at e3
      · rename_i hc
        cases e3
        obtain ⟨l, vs, rfl, hL, hs⟩ := dt_lst e1.gh (so.ext e1).bh hd
        obtain ⟨rows, r1, r2, r3⟩ := rows_dts e1.gh hs e2
        subst r1 r2
        refine ⟨l, rows, rfl, hL, r3, by simpa using hc, fun ls nd iff => ?_⟩
        have : ls.length = (distinct (rows.map Prod.snd)).length := nodup_len nd nodup_distinct fun k => by rw [iff, mem_distinct]
        rw [this]
        exact kq_int e1.gh (k.ext e1)
      · cases e3
    | _ => exact q1.elim
end
end VL

/-! VLh: places, and what changes them. -/
namespace VL
open PySem PySem.Spec PyProof.Rows L2
variable [LamT]

noncomputable abbrev Pi := Sum Nat Nat
/-- locked by a walk -/
structure HO.free (o : HO) : Prop where
  f : ∀ ob u, o ≠ .frz ob u
  p : PlO o
theorem HO.free.n {o : HO} (h : HO.free o) : NT o := h.p.nt
theorem HO.free_by {o : HO} (h : ∀ ob u, o ≠ .frz ob u) (n : PlO o := by trivial) : HO.free o := ⟨h, n⟩
/-- the places hold trees; what they own stands apart -/
structure VRep (K : PySem.W.Frag) (G B Φ H : Hp) (As : List V) (S : Pi → List Addr) (σ : L2.St) (ρ : Plc) : Prop where
  gh : Sub G H
  bp : Same B Φ
  ph : SmN Φ H
  dis : ∀ a o, Φ a = some o → G a = none
  len : ρ.s.length = σ.length
  alen : ρ.a.length = As.length
  slot : ∀ (i : Nat) (d : D), ρ.s[i]? = some (Sl.val d) → d.old ∧ ∃ v, σ[i]? = some (some v) ∧ Dat K G B H (S (.inl i)) v d
  arg : ∀ (i j : Nat), ρ.s[i]? = some (Sl.arg j) → ∃ v, σ[i]? = some (some v) ∧ As[j]? = some v
  ar : ∀ (j : Nat) (d : D), ρ.a[j]? = some (some d) → d.old ∧ ∃ v, As[j]? = some v ∧ Dat K G B H (S (.inr j)) v d
  nd : ∀ i, (S i).Nodup
  dj : ∀ i j a, i ≠ j → a ∈ S i → a ∉ S j
  fr : ∀ i a, a ∈ S i → G a = none ∧ Φ a = none ∧ ∃ o, H a = some o ∧ HO.free o
/-- a value in no place yet: what it owns -/
noncomputable def TOk (T : List Addr) (S : Pi → List Addr) (G Φ H : Hp) : Prop := T.Nodup ∧ ∀ a ∈ T, (∀ i, a ∉ S i) ∧ G a = none ∧ Φ a = none ∧ ∃ o, H a = some o ∧ HO.free o
theorem TOk.nil {S : Pi → List Addr} {G Φ H : Hp} : TOk [] S G Φ H := ⟨.nil, fun a m => by cases m⟩
section
variable {K : PySem.W.Frag} {G B Φ H G' H' : Hp} {As : List V} {S : Pi → List Addr} {σ : L2.St} {ρ : Plc}
theorem VRep.so (r : VRep K G B Φ H As S σ ρ) : SOk K G B H As σ ρ :=
  ⟨r.gh, (SmN.of r.bp).trans r.ph, r.len, fun i d e => let ⟨n, v, h1, h2⟩ := r.slot i d e; ⟨n, v, h1, _, h2⟩, r.arg, fun j d e => let ⟨n, v, h1, h2⟩ := r.ar j d e; ⟨n, v, h1, _, h2⟩⟩
theorem VRep.ext (r : VRep K G B Φ H As S σ ρ) (e : Ext G H G' H') : VRep K G' B Φ H' As S σ ρ where
  gh := e.gh
  bp := r.bp
  ph := r.ph.trans e.h
  dis := fun a o q => by
    cases z : G' a with
    | none => rfl
    | some u =>
      rcases e.new a u z with z | z
      · rw [r.dis a o q] at z; cases z
      · rw [r.ph.z a z] at q; cases q
  len := r.len
  alen := r.alen
  slot := fun i d q => let ⟨n, v, h1, h2⟩ := r.slot i d q; ⟨n, v, h1, h2.mono e.g (fun _ _ q => q) (On.of e.h)⟩
  arg := r.arg
  ar := fun i d q => let ⟨n, v, h1, h2⟩ := r.ar i d q; ⟨n, v, h1, h2.mono e.g (fun _ _ q => q) (On.of e.h)⟩
  nd := r.nd
  dj := r.dj
  fr := fun i a m => by
    obtain ⟨h1, h2, o, h3, h4⟩ := r.fr i a m
    refine ⟨?_, h2, o, e.h a o h3 h4.n, h4⟩
    cases z : G' a with
    | none => rfl
    | some u =>
      rcases e.new a u z with z | z
      · rw [h1] at z; cases z
      · rw [h3] at z; cases z
/-- other regions -/
noncomputable def setS (S : Pi → List Addr) (i : Pi) (T : List Addr) : Pi → List Addr := fun j => if j = i then T else S j
theorem setS_same {i : Pi} {T : List Addr} : setS S i T i = T := by simp [setS]
theorem setS_ne {i j : Pi} {T : List Addr} (h : j ≠ i) : setS S i T j = S j := by simp [setS, h]
noncomputable def Plc.setS (ρ : Plc) (i : Nat) (x : Sl) : Plc := ⟨ρ.s.set i x, ρ.a⟩
noncomputable def Plc.setA (ρ : Plc) (j : Nat) (d : Option D) : Plc := ⟨ρ.s, ρ.a.set j d⟩
/-- a slot is set to a value in no place yet -/
theorem VRep.set {T : List Addr} {i : Nat} {v : V} {d : D} (r : VRep K G B Φ H As S σ ρ) (hd : Dat K G B H T v d) (n : d.old) (t : TOk T S G Φ H) : VRep K G B Φ H As (VL.setS S (.inl i) T) (σ.set i (some v)) (ρ.setS i (.val d)) where
  gh := r.gh
  bp := r.bp
  ph := r.ph
  dis := r.dis
  len := by simp [Plc.setS, r.len]
  alen := r.alen
  slot := fun j e q => by
    simp only [Plc.setS, List.getElem?_set] at q
    by_cases hij : i = j
    · subst hij
      by_cases hl : i < ρ.s.length
      · rw [if_pos rfl, if_pos hl] at q
        cases q
        exact ⟨n, v, by rw [List.getElem?_set, if_pos rfl, if_pos (by rw [← r.len]; exact hl)], by rw [setS_same]; exact hd⟩
      · rw [if_pos rfl, if_neg hl] at q; cases q
    · rw [if_neg hij] at q
      obtain ⟨n', w, h1, h2⟩ := r.slot j e q
      exact ⟨n', w, by rw [List.getElem?_set, if_neg hij]; exact h1, by rw [setS_ne (by simpa using Ne.symm hij)]; exact h2⟩
  arg := fun j k q => by
    simp only [Plc.setS, List.getElem?_set] at q
    by_cases hij : i = j
    · subst hij
      by_cases hl : i < ρ.s.length
      · rw [if_pos rfl, if_pos hl] at q; cases q
      · rw [if_pos rfl, if_neg hl] at q; cases q
    · rw [if_neg hij] at q
      obtain ⟨w, h1, h2⟩ := r.arg j k q
      exact ⟨w, by rw [List.getElem?_set, if_neg hij]; exact h1, h2⟩
  ar := fun j e q => by
    obtain ⟨n', w, h1, h2⟩ := r.ar j e q
    exact ⟨n', w, h1, by rw [setS_ne (by simp)]; exact h2⟩
  nd := fun j => by
    by_cases h : j = .inl i
    · subst h; rw [setS_same]; exact t.1
    · rw [setS_ne h]; exact r.nd j
  dj := fun j k a hne hj hk => by
    by_cases h1 : j = .inl i
    · subst h1
      rw [setS_same] at hj
      rw [setS_ne (Ne.symm hne)] at hk
      exact (t.2 a hj).1 k hk
    · rw [setS_ne h1] at hj
      by_cases h2 : k = .inl i
      · subst h2
        rw [setS_same] at hk
        exact (t.2 a hk).1 j hj
      · rw [setS_ne h2] at hk
        exact r.dj j k a hne hj hk
  fr := fun j a m => by
    by_cases h : j = .inl i
    · subst h; rw [setS_same] at m; exact (t.2 a m).2
    · rw [setS_ne h] at m; exact r.fr j a m
/-- a slot is forgotten; what it owned is in no place -/
theorem VRep.drop {i : Nat} {x : Option V} (r : VRep K G B Φ H As S σ ρ) : VRep K G B Φ H As (VL.setS S (.inl i) []) (σ.set i x) (ρ.setS i .no) where
  gh := r.gh
  bp := r.bp
  ph := r.ph
  dis := r.dis
  len := by simp [Plc.setS, r.len]
  alen := r.alen
  slot := fun j e q => by
    simp only [Plc.setS, List.getElem?_set] at q
    by_cases hij : i = j
    · subst hij
      by_cases hl : i < ρ.s.length
      · rw [if_pos rfl, if_pos hl] at q; cases q
      · rw [if_pos rfl, if_neg hl] at q; cases q
    · rw [if_neg hij] at q
      obtain ⟨n', w, h1, h2⟩ := r.slot j e q
      exact ⟨n', w, by rw [List.getElem?_set, if_neg hij]; exact h1, by rw [setS_ne (by simpa using Ne.symm hij)]; exact h2⟩
  arg := fun j k q => by
    simp only [Plc.setS, List.getElem?_set] at q
    by_cases hij : i = j
    · subst hij
      by_cases hl : i < ρ.s.length
      · rw [if_pos rfl, if_pos hl] at q; cases q
      · rw [if_pos rfl, if_neg hl] at q; cases q
    · rw [if_neg hij] at q
      obtain ⟨w, h1, h2⟩ := r.arg j k q
      exact ⟨w, by rw [List.getElem?_set, if_neg hij]; exact h1, h2⟩
  ar := fun j e q => by
    obtain ⟨n', w, h1, h2⟩ := r.ar j e q
    exact ⟨n', w, h1, by rw [setS_ne (by simp)]; exact h2⟩
  nd := fun j => by
    by_cases h : j = .inl i
    · subst h; rw [setS_same]; exact .nil
    · rw [setS_ne h]; exact r.nd j
  dj := fun j k a hne hj hk => by
    by_cases h1 : j = .inl i
    · subst h1; rw [setS_same] at hj; cases hj
    · rw [setS_ne h1] at hj
      by_cases h2 : k = .inl i
      · subst h2; rw [setS_same] at hk; cases hk
      · rw [setS_ne h2] at hk
        exact r.dj j k a hne hj hk
  fr := fun j a m => by
    by_cases h : j = .inl i
    · subst h; rw [setS_same] at m; cases m
    · rw [setS_ne h] at m; exact r.fr j a m
theorem set_self {α : Type} {l : List α} {i : Nat} {x : α} (h : l[i]? = some x) : l.set i x = l := by
  apply List.ext_getElem?
  intro j
  rw [List.getElem?_set]
  by_cases hij : i = j
  · subst hij
    rw [if_pos rfl, if_pos (List.getElem?_eq_some_iff.mp h).1, h]
  · rw [if_neg hij]
/-- the value of a slot leaves it -/
theorem VRep.take {i : Nat} {d : D} (r : VRep K G B Φ H As S σ ρ) (h : ρ.s[i]? = some (.val d)) : ∃ v, σ[i]? = some (some v) ∧ d.old ∧ Dat K G B H (S (.inl i)) v d ∧ VRep K G B Φ H As (VL.setS S (.inl i) []) σ (ρ.setS i .no) ∧ TOk (S (.inl i)) (VL.setS S (.inl i) []) G Φ H := by
  obtain ⟨n, v, h1, h2⟩ := r.slot i d h
  refine ⟨v, h1, n, h2, ?_, r.nd _, fun a m => ⟨fun j q => ?_, r.fr _ a m⟩⟩
  · have := r.drop (i := i) (x := some v)
    rw [set_self h1] at this
    exact this
  · by_cases hj : j = .inl i
    · subst hj; rw [setS_same] at q; cases q
    · rw [setS_ne hj] at q
      exact r.dj _ _ a (Ne.symm hj) m q
/-- what is owned is settled -/
noncomputable def more (G H : Hp) (T : List Addr) : Hp := fun a => if a ∈ T then H a else G a
theorem more_same {T : List Addr} (h : ∀ a ∈ T, G a = none) : Same G (more G H T) := fun a o e => by
  unfold more
  split
  · rename_i m; rw [h a m] at e; cases e
  · exact e
theorem Sub.more {G H : Hp} (s : Sub G H) (T : List Addr) : Sub (more G H T) H := ⟨⟨fun a o e nt => by
  unfold VL.more at e
  split at e
  · exact e
  · exact s a o e nt, fun a ps e => by
  unfold VL.more at e
  split at e
  · exact ⟨ps, e⟩
  · exact s.n.y a ps e⟩, s.t⟩
theorem more_at {T : List Addr} {a : Addr} (m : a ∈ T) : more G H T a = H a := by simp [more, m]
theorem dat_fz {T : List Addr} {v : V} {d : D} (hd : Dat K G B H T v d) (h : ∀ a ∈ T, G a = none) : Dat K (more G H T) B H' [] v d.fz := by
  refine Dat.turn (more_same h) (fun p vs q => q.imp id (more_same h).seq) rfl (fun f => by cases f <;> simp [fzF]) (fun f p o nt n m => ?_) hd
  cases f with
  | own => exact ⟨by show more G H T p = some o; rw [more_at (m p (by simp [Fl.ad]))]; exact n, rfl⟩
  | new => exact ⟨by show more G H T p = some o; rw [more_at (m p (by simp [Fl.ad]))]; exact n, rfl⟩
  | frz => exact ⟨more_same h p o n, rfl⟩
  | bor => exact ⟨n.imp id (more_same h p o), rfl⟩
  | loc => exact n.elim
theorem fz_old (d : D) : d.fz.old := root_mapF (fun f => by cases f <;> simp [fzF]) d
theorem VRep.more {T : List Addr} (r : VRep K G B Φ H As S σ ρ) (t : TOk T S G Φ H) : VRep K (more G H T) B Φ H As S σ ρ := by
  have s : Same G (VL.more G H T) := more_same fun a m => (t.2 a m).2.1
  refine ⟨r.gh.more T, r.bp, r.ph, fun a o e => ?_, r.len, r.alen, fun i d q => let ⟨n, v, h1, h2⟩ := r.slot i d q; ⟨n, v, h1, h2.mono s (fun _ _ q => q) On.same⟩, r.arg, fun i d q => let ⟨n, v, h1, h2⟩ := r.ar i d q; ⟨n, v, h1, h2.mono s (fun _ _ q => q) On.same⟩, r.nd, r.dj, fun i a m => ?_⟩
  · unfold VL.more
    split
    · rename_i m
      rw [(t.2 a m).2.2.1] at e; cases e
    · exact r.dis a o e
  · obtain ⟨h1, h2, h3⟩ := r.fr i a m
    refine ⟨?_, h2, h3⟩
    unfold VL.more
    split
    · rename_i q
      exact absurd m ((t.2 a q).1 i)
    · exact h1
end

/-! ### the reading of what changes places -/
noncomputable abbrev FG := Plc → Out (Exn × Plc) (D × Plc)
noncomputable abbrev FGT := Plc → Out (Exn × Plc) (Bool × Plc)
noncomputable abbrev FGA := Plc → Out (Exn × Plc) (List D × Plc)
/-- all that goes on from here -/
noncomputable def GX (K : PySem.W.Frag) (W : WX) (G B Φ : Hp) (As : List V) (σ : L2.St) (x : Exn × Plc) : Prop := ∀ G' H' S' cls dx, Same G G' → VRep K G' B Φ H' As S' σ x.2 → ExnR K G' B H' x.1 cls dx → W cls dx σ H'
noncomputable def GK (K : PySem.W.Frag) (G B Φ : Hp) (As : List V) (σ : L2.St) (R : VK) (x : D × Plc) : Prop := ∀ G' H' S' v T, Same G G' → VRep K G' B Φ H' As S' σ x.2 → Dat K G' B H' T v x.1 → x.1.old → TOk T S' G' Φ H' → R v H'
noncomputable def GKT (K : PySem.W.Frag) (G B Φ : Hp) (As : List V) (σ : L2.St) (R : Bool → Hp → Prop) (x : Bool × Plc) : Prop := ∀ G' H' S', Same G G' → VRep K G' B Φ H' As S' σ x.2 → R x.1 H'
/-- arguments: settled ones -/
noncomputable def GKA (K : PySem.W.Frag) (G B Φ : Hp) (As : List V) (σ : L2.St) (R : List V → Hp → Prop) (x : List D × Plc) : Prop := ∀ G' H' S' vs, Same G G' → VRep K G' B Φ H' As S' σ x.2 → Dats K G' B H' [] vs x.1 → R vs H'
section
variable {K : PySem.W.Frag} {W : WX} {G B Φ G1 : Hp} {As : List V} {σ : L2.St}
theorem GX.mono {x : Exn × Plc} (s : Same G G1) (h : GX K W G B Φ As σ x) : GX K W G1 B Φ As σ x := fun G' H' S' cls dx s' => h G' H' S' cls dx (s.trans s')
theorem GK.mono {R : VK} {x : D × Plc} (s : Same G G1) (h : GK K G B Φ As σ R x) : GK K G1 B Φ As σ R x := fun G' H' S' v T s' => h G' H' S' v T (s.trans s')
theorem GKT.mono {R : Bool → Hp → Prop} {x : Bool × Plc} (s : Same G G1) (h : GKT K G B Φ As σ R x) : GKT K G1 B Φ As σ R x := fun G' H' S' s' => h G' H' S' (s.trans s')
theorem GKA.mono {R : List V → Hp → Prop} {x : List D × Plc} (s : Same G G1) (h : GKA K G B Φ As σ R x) : GKA K G1 B Φ As σ R x := fun G' H' S' vs s' => h G' H' S' vs (s.trans s')
end
noncomputable def upG (K : PySem.W.Frag) (W : WX) (f : FG) : TE := fun σ H R => ∃ (G B Φ : Hp) (As : List V) (S : Pi → List Addr) (ρ : Plc), VRep K G B Φ H As S σ ρ ∧ (f ρ).P (GK K G B Φ As σ R) (GX K W G B Φ As σ)
noncomputable def upGT (K : PySem.W.Frag) (W : WX) (f : FGT) : TT := fun σ H R => ∃ (G B Φ : Hp) (As : List V) (S : Pi → List Addr) (ρ : Plc), VRep K G B Φ H As S σ ρ ∧ (f ρ).P (GKT K G B Φ As σ R) (GX K W G B Φ As σ)
noncomputable def upGA (K : PySem.W.Frag) (W : WX) (f : FGA) : TA := fun σ H R => ∃ (G B Φ : Hp) (As : List V) (S : Pi → List Addr) (ρ : Plc), VRep K G B Φ H As S σ ρ ∧ (f ρ).P (GKA K G B Φ As σ R) (GX K W G B Φ As σ)
noncomputable abbrev GE (X : Cx) (W : WX) (e : Expr) (f : FG) : Prop := PE X e (upG X.K W f)
noncomputable abbrev GT (X : Cx) (W : WX) (e : Expr) (f : FGT) : Prop := PT X e (upGT X.K W f)
noncomputable abbrev GA (X : Cx) (W : WX) (es : List Expr) (f : FGA) : Prop := PA X es (upGA X.K W f)

/-! ### quiet ones as such -/
/-- a new root is owned from now on -/
noncomputable def D.up : D → D
  | .lst .new xs => .lst .own xs
  | .dic .new xs => .dic .own xs
  | .dit .new xs => .dit .own xs
  | .din .new xs => .din .own xs
  | .obj .new C xs => .obj .own C xs
  | d => d
noncomputable def D.free : D → Bool
  | .lst .new xs => D.allFL ownF xs
  | .dic .new xs => D.allFK ownF xs
  | .dit .new xs => D.allFK ownF xs
  | .din .new _ => true
  | .obj .new _ xs => D.allFK ownF xs
  | d => d.noOwn
theorem up_old (d : D) : d.up.old := by
  cases d with
  | lst f _ => cases f <;> simp [D.up, D.root]
  | dic f _ => cases f <;> simp [D.up, D.root]
  | dit f _ => cases f <;> simp [D.up, D.root]
  | din f _ => cases f <;> simp [D.up, D.root]
  | obj f _ _ => cases f <;> simp [D.up, D.root]
  | _ => simp [D.up, D.root]
theorem up_id {d : D} (h : d.old) : d.up = d := by
  cases d with
  | lst f _ => cases f <;> first | rfl | exact absurd rfl h
  | dic f _ => cases f <;> first | rfl | exact absurd rfl h
  | dit f _ => cases f <;> first | rfl | exact absurd rfl h
  | din f _ => cases f <;> first | rfl | exact absurd rfl h
  | obj f _ _ => cases f <;> first | rfl | exact absurd rfl h
  | _ => rfl
theorem free_id {d : D} (h : d.old) : d.free = d.noOwn := by
  cases d with
  | lst f _ => cases f <;> first | rfl | exact absurd rfl h
  | dic f _ => cases f <;> first | rfl | exact absurd rfl h
  | dit f _ => cases f <;> first | rfl | exact absurd rfl h
  | din f _ => cases f <;> first | rfl | exact absurd rfl h
  | obj f _ _ => cases f <;> first | rfl | exact absurd rfl h
  | _ => rfl
/-- what a quiet expression has laid comes to be owned -/
theorem up_dat {K : PySem.W.Frag} {G B Φ H G1 H1 : Hp} {As : List V} {S : Pi → List Addr} {σ : L2.St} {ρ : Plc} {v : V} {d : D} (r : VRep K G B Φ H As S σ ρ) (e : Ext G H G1 H1) (hd : Dt K G1 B H1 v d) (fr : Fresh H G1 v d) (hf : d.free = true) : ∃ T, Dat K G1 B H1 T v d.up ∧ TOk T S G1 Φ H1 := by
  by_cases ho : d.old
  · rw [up_id ho]
    rw [free_id ho] at hf
    obtain ⟨T, hd⟩ := hd
    have s := hd.noS hf
    subst s
    exact ⟨[], hd, .nil⟩
  · have hr : d.root = some .new := by simpa using ho
    obtain ⟨p, rfl, h1, h2⟩ := fr hr
    have tok : ∀ o, H1 p = some o → HO.free o → TOk [p] S G1 Φ H1 := fun o ho hf => ⟨by simp, fun a m => by
      have : a = p := by simpa using m
      subst this
      refine ⟨fun i q => ?_, h2, ?_, o, ho, hf⟩
      · obtain ⟨_, _, u, z, _⟩ := r.fr i a q
        rw [h1] at z; cases z
      · exact (r.ph.z _ h1)⟩
    obtain ⟨T, hd⟩ := hd
    cases hd with
    | lst n hs =>
      cases hr
      have s := Dats.noS hs hf
      subst s
      exact ⟨[p], .lst (f := .own) n hs, tok _ n (HO.free_by (by intro _ _ z; cases z))⟩
    | dic n hs =>
      cases hr
      have s := DatM.noS hs hf
      subst s
      rcases n with n | ⟨nn, _⟩
      · exact ⟨[p], .dic (f := .own) (.inl n) hs, tok _ n (HO.free_by (by intro _ _ z; cases z))⟩
      · exact absurd rfl nn
    | dit n hs =>
      cases hr
      have s := DatM.noS hs hf
      subst s
      rcases n with n | ⟨nn, _⟩
      · exact ⟨[p], .dit (f := .own) (.inl n) hs, tok _ n (HO.free_by (by intro _ _ z; cases z))⟩
      · exact absurd rfl nn
    | din hw n hk eq =>
      cases hr
      exact ⟨[p], .din (f := .own) hw n hk eq, tok _ n (HO.free_by (by intro _ _ z; cases z) dN_pl)⟩
    | obj n hs =>
      cases hr
      have s := DatM.noS hs hf
      subst s
      exact ⟨[p], .obj (f := .own) n hs, tok _ n (HO.free_by (by intro _ _ z; cases z))⟩
    | _ => cases hr
noncomputable def gQ (f : FQ) : FG := fun ρ => match f ρ with
  | .ok d => if d.free = true then .ok (d.up, ρ) else .no
  | .ex x => .ex (x, ρ)
  | .no => .no
noncomputable def gQT (f : FT) : FGT := fun ρ => match f ρ with
  | .ok b => .ok (b, ρ)
  | .ex x => .ex (x, ρ)
  | .no => .no
section
variable {X : Cx} {W : WX} {e : Expr}
theorem EX.of {K : PySem.W.Frag} {G B Φ H : Hp} {As : List V} {S : Pi → List Addr} {σ : L2.St} {ρ : Plc} {x : Exn} (r : VRep K G B Φ H As S σ ρ) (h : GX K W G B Φ As σ (x, ρ)) : EX K W G B H σ x := fun G' H' cls dx e er => h G' H' S cls dx e.g (r.ext e) er
theorem gq_up {K : PySem.W.Frag} {f : FQ} {σ : L2.St} {H : Hp} {R : VK} (h : upG K W (gQ f) σ H R) : upQ K W f σ H R := by
  obtain ⟨G, B, Φ, As, S, ρ, r, q⟩ := h
  refine ⟨G, B, As, ρ, r.so, ?_⟩
  unfold gQ at q
  cases hf : f ρ with
  | no => rw [hf] at q; exact q.elim
  | ex x => rw [hf] at q; exact EX.of r q
  | ok d =>
    rw [hf] at q
    obtain ⟨hfr, k⟩ := Out.P_if q
    intro G1 H1 v e hd fr
    obtain ⟨T, hT, tok⟩ := up_dat r e hd fr hfr
    exact k G1 H1 S v T e.g (r.ext e) hT (up_old d) tok
theorem ge_q {f : FQ} (h : QE X W e f) : GE X W e (gQ f) := peI h fun σ H R q => gq_up q
theorem gqt_up {K : PySem.W.Frag} {f : FT} {σ : L2.St} {H : Hp} {R : Bool → Hp → Prop} (h : upGT K W (gQT f) σ H R) : upQT K W f σ H R := by
  obtain ⟨G, B, Φ, As, S, ρ, r, q⟩ := h
  refine ⟨G, B, As, ρ, r.so, ?_⟩
  unfold gQT at q
  cases hf : f ρ with
  | no => rw [hf] at q; exact q.elim
  | ex x => rw [hf] at q; exact EX.of r q
  | ok d =>
    rw [hf] at q
    exact fun G1 H1 e => q G1 H1 S e.g (r.ext e)
theorem gt_q {f : FT} (h : QT X W e f) : GT X W e (gQT f) := ptI h fun σ H R q => gqt_up q

/-! ### names whose value leaves its slot, or is settled -/
noncomputable def gMove (i : Nat) : FG := fun ρ => match ρ.s[i]? with
  | some (.val d) => .ok (d, ρ.setS i .no)
  | _ => .no
noncomputable def gFz (i : Nat) : FG := fun ρ => match ρ.s[i]? with
  | some (.val d) => .ok (d.fz, ρ.setS i (.val d.fz))
  | _ => .no
theorem ge_move {i : Nat} {x : Str} {pos : Pos} (hN : X.N[i]? = some x := by rfl) (hv : Vis X.env.scope x := by first | exact Or.inl rfl | exact Or.inr (Or.inl rfl) | exact Or.inr (Or.inr rfl)) (hd : (x == ("__debug__" : Str)) = false := by decide) (hcd : (x == ("__classdict__" : Str)) = false := by decide) : GE X W (.Name x pos) (gMove i) :=
  peI (pe_var hN hv hd hcd) fun σ H R ⟨G, B, Φ, As, S, ρ, r, q⟩ => by
    unfold gMove at q
    cases hi : ρ.s[i]? with
    | none => rw [hi] at q; exact q.elim
    | some sl =>
      rw [hi] at q
      cases sl with
      | no => exact q.elim
      | arg j => exact q.elim
      | val d =>
        obtain ⟨v, h1, n, h2, r', t⟩ := r.take hi
        exact ⟨v, h1, q G H _ v _ (fun _ _ e => e) r' h2 n t⟩
theorem ge_fz {i : Nat} {x : Str} {pos : Pos} (hN : X.N[i]? = some x := by rfl) (hv : Vis X.env.scope x := by first | exact Or.inl rfl | exact Or.inr (Or.inl rfl) | exact Or.inr (Or.inr rfl)) (hd : (x == ("__debug__" : Str)) = false := by decide) (hcd : (x == ("__classdict__" : Str)) = false := by decide) : GE X W (.Name x pos) (gFz i) :=
  peI (pe_var hN hv hd hcd) fun σ H R ⟨G, B, Φ, As, S, ρ, r, q⟩ => by
    unfold gFz at q
    cases hi : ρ.s[i]? with
    | none => rw [hi] at q; exact q.elim
    | some sl =>
      rw [hi] at q
      cases sl with
      | no => exact q.elim
      | arg j => exact q.elim
      | val d =>
        obtain ⟨v, h1, n, h2, r', t⟩ := r.take hi
        have r2 := r'.more t
        have hd := dat_fz (H' := H) h2 fun a m => (t.2 a m).2.1
        have r3 := r2.set (i := i) hd (fz_old d) .nil
        rw [set_self h1] at r3
        have e2 : (ρ.setS i .no).setS i (.val d.fz) = ρ.setS i (.val d.fz) := by simp [Plc.setS]
        rw [e2] at r3
        exact ⟨v, h1, q _ H _ v [] (more_same fun a m => (t.2 a m).2.1) r3 hd (fz_old d) .nil⟩
end
end VL

/-! VLi: expressions that change places, put together. -/
namespace VL
open PySem PySem.Spec PyProof.Rows L2
variable [LamT]

noncomputable def finG (o : Out Exn D) (ρ : Plc) : Out (Exn × Plc) (D × Plc) := match o with
  | .ok d => if d.free = true then .ok (d.up, ρ) else .no
  | _ => .no
section
variable {K : PySem.W.Frag} {G B Φ H : Hp} {As : List V} {S : Pi → List Addr} {σ : L2.St} {ρ : Plc} {R : VK} {W : WX}
/-- what an operator asks, once its operands are there -/
theorem fin_up {o : Out Exn D} (r : VRep K G B Φ H As S σ ρ) (h : (finG o ρ).P (GK K G B Φ As σ R) (GX K W G B Φ As σ)) : o.P (KQ K G B H R) (fun _ => False) := by
  unfold finG at h
  cases o with
  | no => exact h.elim
  | ex x => exact h.elim
  | ok d =>
    obtain ⟨hf, k⟩ := Out.P_if h
    intro G1 H1 v e hd fr
    obtain ⟨T, hT, tok⟩ := up_dat r e hd fr hf
    exact k G1 H1 S v T e.g (r.ext e) hT (up_old d) tok
/-- a value owning nothing stays what it is while places change -/
theorem still {G' H' : Hp} {T : List Addr} {v : V} {d : D} (hd : Dat K G B H T v d) (n : d.noOwn = true) (s : Same G G') : Dt K G' B H' v d := ⟨[], (hd.anyH (H' := H) n).mono s (fun _ _ q => q) (fun a m => by cases m)⟩
theorem bh_of (r : VRep K G B Φ H As S σ ρ) : SmN B H := (SmN.of r.bp).trans r.ph
end
noncomputable def gOp (f : D → D → Out Exn D) (ga gb : FG) : FG := fun ρ => (ga ρ).bind fun x => if x.1.noOwn = true then (gb x.2).bind fun y => finG (f x.1 y.1) y.2 else .no
section
variable {X : Cx} {W : WX} {a b c e o : Expr} {es : List Expr} {ga gb : FG} {gs : FGA} {pos p apos : Pos} {x : Str} {id T : String}
theorem Out.P_ifn {ε α : Type} {c : Prop} [Decidable c] {o : Out ε α} {P : α → Prop} {E : ε → Prop} (h : (if c then o else Out.no).P P E) : c ∧ o.P P E := by
  by_cases hc : c
  · rw [if_pos hc] at h; exact ⟨hc, h⟩
  · rw [if_neg hc] at h; exact h.elim
theorem up_gop {r : R2} {f : D → D → Out Exn D} (hv : V2 X.K r f) {σ : L2.St} {H : Hp} {R : VK} (h : upG X.K W (gOp f ga gb) σ H R) : tOp r (upG X.K W ga) (upG X.K W gb) σ H R := by
  obtain ⟨G, B, Φ, As, S, ρ, rp, q⟩ := h
  refine ⟨G, B, Φ, As, S, ρ, rp, Out.P_mono (Out.P_bind.mp q) (fun x q1 G1 H1 S1 v T1 s1 r1 hx n1 t1 => ?_) fun _ z => z⟩
  obtain ⟨no, q1⟩ := Out.P_ifn q1
  refine ⟨G1, B, Φ, As, S1, x.2, r1, Out.P_mono (Out.P_bind.mp q1) (fun y q2 G2 H2 S2 w T2 s2 r2 hy n2 t2 => ?_) fun _ z => z.mono s1⟩
  exact hv.go G2 B H2 v w x.1 y.1 R r2.gh (bh_of r2) (still hx no s2) ⟨_, hy⟩ (fin_up r2 (Out.P_mono q2 (fun _ k => k.mono (s1.trans s2)) fun _ k => k.mono (s1.trans s2)))
theorem ge_op {op : Operator} {r : R2} {f : D → D → Out Exn D} (ho : OpR X (binaryOp op) r) (hv : V2 X.K r f) (ha : GE X W a ga) (hb : GE X W b gb) : GE X W (.BinOp a op b pos) (gOp f ga gb) := peI (pe_op ho ha hb) fun _ _ _ h => up_gop hv h
theorem ge_ix {r : R2} {f : D → D → Out Exn D} (hr : IxR X r) (hv : V2 X.K r f) (ha : GE X W a ga) (hb : GE X W b gb) (hs : PlainIx b := by intro _ _; rfl) : GE X W (.Subscript a b pos) (gOp f ga gb) := peI (pe_ix hr ha hb hs) fun _ _ _ h => up_gop hv h
/-! ### lists of them: each is settled -/
noncomputable def gNil : FGA := fun ρ => .ok ([], ρ)
noncomputable def gCons (ga : FG) (gs : FGA) : FGA := fun ρ => (ga ρ).bind fun x => (gs x.2).bind fun ds => .ok (x.1.fz :: ds.1, ds.2)
theorem ga_nil : GA X W [] gNil := paI pa_nil fun σ H R ⟨G, B, Φ, As, S, ρ, rp, q⟩ => q G H S [] (fun _ _ e => e) rp .nil
theorem ga_cons (ha : GE X W e ga) (hr : GA X W es gs) (hs : starEach (e :: es) X.env = (false, eval e X.env) :: starEach es X.env := by rfl) : GA X W (e :: es) (gCons ga gs) :=
  paI (pa_cons ha hr hs) fun σ H R ⟨G, B, Φ, As, S, ρ, rp, q⟩ => by
    refine ⟨G, B, Φ, As, S, ρ, rp, Out.P_mono (Out.P_bind.mp q) (fun x q1 G1 H1 S1 v T1 s1 r1 hx n1 t1 => ?_) fun _ z => z⟩
    have sm : Same G1 (more G1 H1 T1) := more_same fun a m => (t1.2 a m).2.1
    refine ⟨_, B, Φ, As, S1, x.2, r1.more t1, Out.P_mono (Out.P_bind.mp q1) (fun ds q2 G2 H2 S2 vs s2 r2 hds => ?_) fun _ z => z.mono (s1.trans sm)⟩
    have hd := dat_fz (H' := H2) hx fun a m => (t1.2 a m).2.1
    have := Dats.cons (fz_old _) (hd.mono s2 (fun _ _ q => q) (fun a m => by cases m)) hds
    exact q2 G2 H2 S2 (v :: vs) ((s1.trans sm).trans s2) r2 this
theorem Dats.ta {K : PySem.W.Frag} {G B H : Hp} : ∀ {S : List Addr} {vs : List V} {ds : List D}, Dats K G B H S vs ds → Dta K G B H vs ds
  | _, _, _, .nil => .nil
  | _, _, _, .cons _ h t => .cons ⟨_, h⟩ (Dats.ta t)
/-! ### displays -/
theorem TOk.one {G Φ H : Hp} {S : Pi → List Addr} {p : Addr} {o : HO} (gp : G p = none) (pp : Φ p = none) (hS : ∀ i, p ∉ S i) (hp : H p = some o) (hf : HO.free o) : TOk [p] S G Φ H := ⟨by simp, fun a m => by
  have : a = p := by simpa using m
  subst this
  exact ⟨hS, gp, pp, o, hp, hf⟩⟩
theorem VRep.none_of {K : PySem.W.Frag} {G B Φ H : Hp} {As : List V} {S : Pi → List Addr} {σ : L2.St} {ρ : Plc} (r : VRep K G B Φ H As S σ ρ) {p : Addr} (h : H p = none) : G p = none ∧ Φ p = none ∧ ∀ i, p ∉ S i :=
  ⟨(r.gh.n.z _ h), (r.ph.z _ h), fun i m => by obtain ⟨_, _, o, z, _⟩ := r.fr i p m; rw [h] at z; cases z⟩
noncomputable def mkTupG (x : List D × Plc) : Out (Exn × Plc) (D × Plc) := if x.1.length ≤ sizeLine then .ok (.tup x.1, x.2) else .no
noncomputable def mkLstG (x : List D × Plc) : Out (Exn × Plc) (D × Plc) := if x.1.length ≤ sizeLine then .ok (.lst .own x.1, x.2) else .no
noncomputable def gTup (gs : FGA) : FG := fun ρ => (gs ρ).bind mkTupG
noncomputable def gLst (gs : FGA) : FG := fun ρ => (gs ρ).bind mkLstG
/-! ### lists of quiet ones and of names that are moved: what is owned stays so -/
theorem TOk.app {T1 T2 : List Addr} {S : Pi → List Addr} {G Φ H : Hp} (a : TOk T1 S G Φ H) (b : TOk T2 S G Φ H) (d : ∀ x ∈ T1, x ∉ T2) : TOk (T1 ++ T2) S G Φ H :=
  ⟨List.nodup_append.mpr ⟨a.1, b.1, fun x hx y hy e => d x hx (e ▸ hy)⟩, fun x m => (List.mem_append.mp m).elim (a.2 x) (b.2 x)⟩
theorem TOk.ext {T : List Addr} {S S' : Pi → List Addr} {G Φ H G' H' : Hp} (t : TOk T S G Φ H) (e : Ext G H G' H') (sub : ∀ i a, a ∈ S' i → a ∈ S i) : TOk T S' G' Φ H' := ⟨t.1, fun a m => by
  obtain ⟨h1, h2, h3, o, h4, h5⟩ := t.2 a m
  refine ⟨fun i q => h1 i (sub i a q), ?_, h3, o, e.h a o h4 h5.n, h5⟩
  cases z : G' a with
  | none => rfl
  | some u =>
    rcases e.new a u z with z | z
    · rw [h2] at z; cases z
    · rw [h4] at z; cases z⟩
/-! ### tests -/
noncomputable def gTV (ga : FG) : FGT := fun ρ => (ga ρ).bind fun x => match x.1 with
  | .bl b => .ok (b, x.2)
  | _ => .no
variable {t u : FGT} {rest : List Expr}
theorem up_gb {σ : L2.St} {H : Hp} {R : Bool → Hp → Prop} (h : upGT X.K W (gTV ga) σ H R) : tB (upG X.K W ga) σ H R := by
  obtain ⟨G, B, Φ, As, S, ρ, rp, q⟩ := h
  refine ⟨G, B, Φ, As, S, ρ, rp, Out.P_mono (Out.P_bind.mp q) (fun x q1 G1 H1 S1 v T1 s1 r1 hx n1 t1 => ?_) fun _ z => z⟩
  obtain ⟨d, ρ1⟩ := x
  cases d with
  | bl b => exact ⟨b, dt_bl ⟨_, hx⟩, q1 G1 H1 S1 s1 r1⟩
  | _ => exact q1.elim
theorem gt_cmp {op : CmpOp} {r : R2} {f : D → D → Out Exn D} (ho : OpR X (compareOp op) r) (hv : V2 X.K r f) (ha : GE X W a ga) (hb : GE X W b gb) (hm : behindInMarks op b = false := by first | exact nomark _ | rfl) : GT X W (.Compare a [op] [b] pos) (gTV (gOp f ga gb)) :=
  ptI (pt_cmpR ho ha hb hm) fun σ H R h => up_gop hv (up_gb h)
end
end VL

/-! VLj: statements. -/
namespace VL
open PySem PySem.Spec PyProof.Rows L2
variable [LamT]

inductive OS where
  | nx (ρ : Plc) | rt (d : D) (ρ : Plc) | ex (x : Exn) (ρ : Plc) | bk (ρ : Plc) | ct (ρ : Plc) | no
noncomputable abbrev FS := Plc → OS
noncomputable def OS.End (K : PySem.W.Frag) (W : WX) (G B Φ : Hp) (As : List V) (E : Ends) : OS → Prop
  | .nx ρ => ∀ G' H' S' σ', Same G G' → VRep K G' B Φ H' As S' σ' ρ → E.nx σ' H'
  | .rt d ρ => ∀ G' H' S' σ' v T, Same G G' → VRep K G' B Φ H' As S' σ' ρ → Dat K G' B H' T v d → d.old → TOk T S' G' Φ H' → E.rt v H'
  | .ex x ρ => ∀ G' H' S' σ' cls dx, Same G G' → VRep K G' B Φ H' As S' σ' ρ → ExnR K G' B H' x cls dx → W cls dx σ' H'
  | .bk ρ => ∀ G' H' S' σ', Same G G' → VRep K G' B Φ H' As S' σ' ρ → E.bk σ' H'
  | .ct ρ => ∀ G' H' S' σ', Same G G' → VRep K G' B Φ H' As S' σ' ρ → E.ct σ' H'
  | .no => False
theorem OS.End.mono {K : PySem.W.Frag} {W : WX} {G G1 B Φ : Hp} {As : List V} {E : Ends} (s : Same G G1) : ∀ {o : OS}, o.End K W G B Φ As E → o.End K W G1 B Φ As E
  | .nx _, h => fun G' H' S' σ' s' => h G' H' S' σ' (s.trans s')
  | .rt _ _, h => fun G' H' S' σ' v T s' => h G' H' S' σ' v T (s.trans s')
  | .ex _ _, h => fun G' H' S' σ' cls dx s' => h G' H' S' σ' cls dx (s.trans s')
  | .bk _, h => fun G' H' S' σ' s' => h G' H' S' σ' (s.trans s')
  | .ct _, h => fun G' H' S' σ' s' => h G' H' S' σ' (s.trans s')
  | .no, h => h
noncomputable def upS (K : PySem.W.Frag) (W : WX) (f : FS) : TS := fun E σ H => ∃ (G B Φ : Hp) (As : List V) (S : Pi → List Addr) (ρ : Plc), VRep K G B Φ H As S σ ρ ∧ (f ρ).End K W G B Φ As E
noncomputable abbrev VS (X : Cx) (W : WX) (st : Stmt) (f : FS) : Prop := PS X st (upS X.K W f)
noncomputable abbrev VSs (X : Cx) (W : WX) (st : List Stmt) (f : FS) : Prop := PSs X st (upS X.K W f)
theorem psI {X : Cx} {e : Stmt} {t t' : TS} (h : PS X e t) (i : ∀ E σ H, t' E σ H → t E σ H) : PS X e t' := ⟨fun pins s σ H E I q => h.run pins s σ H E I (i E σ H q)⟩
theorem pssI {X : Cx} {e : List Stmt} {t t' : TS} (h : PSs X e t) (i : ∀ E σ H, t' E σ H → t E σ H) : PSs X e t' := ⟨fun pins s σ H E I q => h.run pins s σ H E I (i E σ H q)⟩
/-- what an expression leaves, and what is made of it -/
noncomputable def seqE {α : Type} (o : Out (Exn × Plc) (α × Plc)) (k : α → Plc → OS) : OS := match o with
  | .ok x => k x.1 x.2
  | .ex e => .ex e.1 e.2
  | .no => .no
noncomputable def seqS (o : OS) (k : FS) : OS := match o with
  | .nx ρ => k ρ
  | o => o
noncomputable def sNext : FS := fun ρ => .nx ρ
noncomputable def sSeq (a b : FS) : FS := fun ρ => seqS (a ρ) b
noncomputable def sDrop (ga : FG) : FS := fun ρ => seqE (ga ρ) fun _ ρ1 => .nx ρ1
noncomputable def sRet (ga : FG) : FS := fun ρ => seqE (ga ρ) fun d ρ1 => .rt d ρ1
noncomputable def sRetN : FS := fun ρ => .rt .non ρ
noncomputable def sIf (t : FGT) (a b : FS) : FS := fun ρ => seqE (t ρ) fun c ρ1 => if c = true then a ρ1 else b ρ1
noncomputable def sSet (i : Nat) (ga : FG) : FS := fun ρ => seqE (ga ρ) fun d ρ1 => .nx (ρ1.setS i (.val d))
/-- slots are forgotten -/
noncomputable def Plc.kill (ρ : Plc) (is : List Nat) : Plc := is.foldl (fun ρ i => ρ.setS i .no) ρ
section
variable {X : Cx} {W : WX} {a b c e o : Expr} {es : List Expr} {ga gb : FG} {gs : FGA} {pos p apos : Pos} {x : Str} {t : FGT} {st : Stmt} {rest A B' : List Stmt} {f g : FS}
theorem seqE_G {K : PySem.W.Frag} {G B Φ H : Hp} {As : List V} {S : Pi → List Addr} {σ : L2.St} {ρ : Plc} {E : Ends} {k : D → Plc → OS} {R : VK} (rp : VRep K G B Φ H As S σ ρ) (q : (seqE (ga ρ) k).End K W G B Φ As E)
    (go : ∀ d ρ1 G1 H1 S1 v T, Same G G1 → VRep K G1 B Φ H1 As S1 σ ρ1 → Dat K G1 B H1 T v d → d.old → TOk T S1 G1 Φ H1 → (k d ρ1).End K W G B Φ As E → R v H1) : upG K W ga σ H R := by
  refine ⟨G, B, Φ, As, S, ρ, rp, ?_⟩
  unfold seqE at q
  cases h : ga ρ with
  | no => rw [h] at q; exact q.elim
  | ex x => rw [h] at q; exact fun G' H' S' cls dx s r er => q G' H' S' σ cls dx s r er
  | ok x => rw [h] at q; exact fun G1 H1 S1 v T s1 r1 hd n t => go x.1 x.2 G1 H1 S1 v T s1 r1 hd n t q
theorem seqE_T {K : PySem.W.Frag} {G B Φ H : Hp} {As : List V} {S : Pi → List Addr} {σ : L2.St} {ρ : Plc} {E : Ends} {k : Bool → Plc → OS} {R : Bool → Hp → Prop} (rp : VRep K G B Φ H As S σ ρ) (q : (seqE (t ρ) k).End K W G B Φ As E)
    (go : ∀ d ρ1 G1 H1 S1, Same G G1 → VRep K G1 B Φ H1 As S1 σ ρ1 → (k d ρ1).End K W G B Φ As E → R d H1) : upGT K W t σ H R := by
  refine ⟨G, B, Φ, As, S, ρ, rp, ?_⟩
  unfold seqE at q
  cases h : t ρ with
  | no => rw [h] at q; exact q.elim
  | ex x => rw [h] at q; exact fun G' H' S' cls dx s r er => q G' H' S' σ cls dx s r er
  | ok x => rw [h] at q; exact fun G1 H1 S1 s1 r1 => go x.1 x.2 G1 H1 S1 s1 r1 q
theorem seqS_up {K : PySem.W.Frag} {G B Φ H : Hp} {As : List V} {S : Pi → List Addr} {σ : L2.St} {ρ : Plc} {E : Ends} {k : FS} {nx' : L2.St → Hp → Prop} (rp : VRep K G B Φ H As S σ ρ) (q : (seqS (f ρ) k).End K W G B Φ As E)
    (go : ∀ ρ1 G1 H1 S1 σ1, Same G G1 → VRep K G1 B Φ H1 As S1 σ1 ρ1 → (k ρ1).End K W G B Φ As E → nx' σ1 H1) : upS K W f { E with nx := nx' } σ H := by
  refine ⟨G, B, Φ, As, S, ρ, rp, ?_⟩
  unfold seqS at q
  cases h : f ρ with
  | nx ρ1 => rw [h] at q; exact fun G1 H1 S1 σ1 s1 r1 => go ρ1 G1 H1 S1 σ1 s1 r1 q
  | rt d ρ1 => rw [h] at q; exact q
  | ex x ρ1 => rw [h] at q; exact q
  | bk ρ1 => rw [h] at q; exact q
  | ct ρ1 => rw [h] at q; exact q
  | no => rw [h] at q; exact q
theorem vss_nil : VSs X W [] sNext := pssI pss_nil fun E σ H ⟨G, B, Φ, As, S, ρ, rp, q⟩ => q G H S σ (fun _ _ e => e) rp
theorem vss_one (h : VS X W st f) : VSs X W [st] f := pss_one h
theorem vss_cons (h : VS X W st f) (h2 : VSs X W rest g) : VSs X W (st :: rest) (sSeq f g) := pssI (pss_cons h h2) fun E σ H ⟨G, B, Φ, As, S, ρ, rp, q⟩ =>
  seqS_up rp q fun ρ1 G1 H1 S1 σ1 s1 r1 q1 => ⟨G1, B, Φ, As, S1, ρ1, r1, q1.mono s1⟩
theorem VRep.kill {K : PySem.W.Frag} {G B Φ H : Hp} {As : List V} {σ : L2.St} : ∀ (is : List Nat) {S : Pi → List Addr} {ρ : Plc}, VRep K G B Φ H As S σ ρ → ∃ S', VRep K G B Φ H As S' σ (ρ.kill is)
  | [], S, _, r => ⟨S, r⟩
  | i :: is, S, ρ, r => by
    have d : VRep K G B Φ H As (setS S (.inl i) []) σ (ρ.setS i .no) := by
      cases hi : σ[i]? with
      | some x =>
        have := r.drop (i := i) (x := x)
        rwa [set_self hi] at this
      | none =>
        have := r.drop (i := i) (x := none)
        rwa [List.set_eq_of_length_le (by simpa using hi)] at this
    exact VRep.kill is d
theorem vs_expr (he : GE X W e ga) (hs : swapsWith e none pos.line X.env = pure false := by rfl) : VS X W (.Expr e pos) (sDrop ga) := psI (ps_expr he hs) fun E σ H ⟨G, B, Φ, As, S, ρ, rp, q⟩ =>
  seqE_G rp q fun d ρ1 G1 H1 S1 v T s1 r1 hd n t q1 => q1 G1 H1 S1 σ s1 r1
theorem vs_ret (he : GE X W e ga) : VS X W (.Return (some e) pos) (sRet ga) := psI (ps_ret he) fun E σ H ⟨G, B, Φ, As, S, ρ, rp, q⟩ =>
  seqE_G rp q fun d ρ1 G1 H1 S1 v T s1 r1 hd n t q1 => q1 G1 H1 S1 σ v T s1 r1 hd n t
theorem vs_retN : VS X W (.Return none pos) sRetN := psI ps_retN fun E σ H ⟨G, B, Φ, As, S, ρ, rp, q⟩ => q G H S σ .non [] (fun _ _ e => e) rp .non (by simp [D.root]) .nil
theorem vs_if {c : Expr} (hc : GT X W c t) (h1 : VSs X W A f) (h2 : VSs X W B' g) : VS X W (.If c A B' pos) (sIf t f g) := psI (ps_if hc h1 h2) fun E σ H ⟨G, B, Φ, As, S, ρ, rp, q⟩ =>
  seqE_T rp q fun d ρ1 G1 H1 S1 s1 r1 q1 => by
    cases d with
    | true => exact iteT ⟨G1, B, Φ, As, S1, ρ1, r1, OS.End.mono s1 (by simpa using q1)⟩
    | false => exact iteF ⟨G1, B, Φ, As, S1, ρ1, r1, OS.End.mono s1 (by simpa using q1)⟩
theorem vs_set {i : Nat} {pos' : Pos} (hN : X.N.Nodup) (hi : X.N[i]? = some x) (hx : Loc X.env.scope x) (he : GE X W e ga) (hs : swapsWith e (some (.Name x pos')) pos.line X.env = pure false := by rfl) (hf : X.fn x = true ∨ X.env.scope.names.lookup x = some .local := by first | exact .inl rfl | exact .inr rfl | assumption) :
    VS X W (.Assign [.Name x pos'] e pos) (sSet i ga) := psI (ps_set hN hi hx he hs hf) fun E σ H ⟨G, B, Φ, As, S, ρ, rp, q⟩ =>
  seqE_G rp q fun d ρ1 G1 H1 S1 v T s1 r1 hd n t q1 => q1 G1 H1 _ _ s1 (r1.set hd n t)

/-! ### targets -/
inductive Tg where
  | nm (i : Nat) | tp (ts : List Tg)
mutual
noncomputable def Tg.put : Tg → D → Plc → Option Plc
  | .nm i, d, ρ => some (ρ.setS i (.val d))
  | .tp ts, .tup ds, ρ => Tg.puts ts ds ρ
  | .tp ts, .lst .frz ds, ρ => Tg.puts ts ds ρ
  | .tp ts, .lst .bor ds, ρ => Tg.puts ts ds ρ
  | .tp _, _, _ => none
noncomputable def Tg.puts : List Tg → List D → Plc → Option Plc
  | [], [], ρ => some ρ
  | t :: ts, d :: ds, ρ => match Tg.put t d ρ with
    | some ρ1 => Tg.puts ts ds ρ1
    | none => none
  | _, _, _ => none
end
mutual
/-- the target's reading in HandS -/
noncomputable def Tg.rd (K : PySem.W.Frag) : Tg → TG
  | .nm i => L2.gName i
  | .tp ts => fun v σ H Q => L2.gTup K ts.length (Tg.rds K ts) v σ H Q ∨ L2.gLst K ts.length (Tg.rds K ts) v σ H Q
noncomputable def Tg.rds (K : PySem.W.Frag) : List Tg → TGs
  | [] => L2.gNil
  | t :: ts => L2.gCons (Tg.rd K t) (Tg.rds K ts)
end
theorem TOk.left {T1 T2 : List Addr} {S : Pi → List Addr} {G Φ H : Hp} (t : TOk (T1 ++ T2) S G Φ H) : TOk T1 S G Φ H := ⟨(List.nodup_append.mp t.1).1, fun a m => t.2 a (List.mem_append_left _ m)⟩
theorem TOk.right {T1 T2 : List Addr} {S : Pi → List Addr} {G Φ H : Hp} (t : TOk (T1 ++ T2) S G Φ H) : TOk T2 S G Φ H := ⟨(List.nodup_append.mp t.1).2.1, fun a m => t.2 a (List.mem_append_right _ m)⟩
mutual
theorem Tg.ok {K : PySem.W.Frag} {G B Φ H : Hp} {As : List V} : ∀ (tg : Tg) {S : Pi → List Addr} {σ : L2.St} {ρ ρ' : Plc} {v : V} {d : D} {T U : List Addr} {R : L2.St → Hp → Prop}, VRep K G B Φ H As S σ ρ → Dat K G B H T v d → d.old → TOk (T ++ U) S G Φ H → Tg.put tg d ρ = some ρ' →
    (∀ S' σ', VRep K G B Φ H As S' σ' ρ' → TOk U S' G Φ H → R σ' H) → Tg.rd K tg v σ H R
  | .nm i, S, σ, ρ, ρ', v, d, T, U, R, r, hd, n, t, e, k => by
    simp only [Tg.put, Option.some.injEq] at e
    subst e
    refine k _ _ (r.set hd n t.left) ⟨t.right.1, fun a m => ⟨fun j q => ?_, (t.right.2 a m).2⟩⟩
    by_cases hj : j = .inl i
    · subst hj
      rw [setS_same] at q
      exact (List.nodup_append.mp t.1).2.2 a q a m rfl
    · rw [setS_ne hj] at q
      exact (t.right.2 a m).1 j q
  | .tp ts, S, σ, ρ, ρ', v, d, T, U, R, r, hd, n, t, e, k => by
    cases d with
    | tup ds =>
      cases hd with
      | tup h hs =>
        simp only [Tg.put] at e
        have hl : ds.length = ts.length := Tg.puts_len ts ds e
        exact .inl ⟨_, _, rfl, r.gh.n.sqT h.sq, hs.length.trans hl, Tg.oks ts r hs t e k⟩
    | lst f ds =>
      cases f with
      | frz =>
        cases hd with
        | lst nd hs =>
          simp only [Tg.put] at e
          exact .inr ⟨_, _, rfl, SqL.of (Nd.here r.gh (bh_of r) nd), hs.length.trans (Tg.puts_len ts ds e), Tg.oks ts r hs t e k⟩
      | bor =>
        cases hd with
        | lst nd hs =>
          simp only [Tg.put] at e
          exact .inr ⟨_, _, rfl, SqL.of (Nd.here r.gh (bh_of r) nd), hs.length.trans (Tg.puts_len ts ds e), Tg.oks ts r hs t e k⟩
      | _ => simp [Tg.put] at e
    | _ => simp [Tg.put] at e
theorem Tg.oks {K : PySem.W.Frag} {G B Φ H : Hp} {As : List V} : ∀ (ts : List Tg) {S : Pi → List Addr} {σ : L2.St} {ρ ρ' : Plc} {vs : List V} {ds : List D} {T U : List Addr} {R : L2.St → Hp → Prop}, VRep K G B Φ H As S σ ρ → Dats K G B H T vs ds → TOk (T ++ U) S G Φ H → Tg.puts ts ds ρ = some ρ' →
    (∀ S' σ', VRep K G B Φ H As S' σ' ρ' → TOk U S' G Φ H → R σ' H) → Tg.rds K ts vs σ H R
  | [], S, σ, ρ, ρ', vs, ds, T, U, R, r, hs, t, e, k => by
    cases hs with
    | nil => simp only [Tg.puts, Option.some.injEq] at e; subst e; exact ⟨rfl, k _ _ r t⟩
    | cons _ _ _ => simp [Tg.puts] at e
  | tg :: ts, S, σ, ρ, ρ', vs, ds, T, U, R, r, hs, t, e, k => by
    cases hs with
    | nil => simp [Tg.puts] at e
    | cons n h hs =>
      simp only [Tg.puts] at e
      cases e1 : Tg.put tg _ ρ with
      | none => rw [e1] at e; cases e
      | some ρ1 =>
        rw [e1] at e
        refine ⟨_, _, rfl, Tg.ok tg r h n (by rw [List.append_assoc] at t; exact t) e1 fun S' σ' r' t' => Tg.oks ts r' hs t' e k⟩
theorem Tg.puts_len : ∀ (ts : List Tg) (ds : List D) {ρ ρ' : Plc}, Tg.puts ts ds ρ = some ρ' → ds.length = ts.length
  | [], [], _, _, _ => rfl
  | [], _ :: _, _, _, e => by simp [Tg.puts] at e
  | _ :: _, [], _, _, e => by simp [Tg.puts] at e
  | t :: ts, d :: ds, ρ, _, e => by
    simp only [Tg.puts] at e
    cases e1 : Tg.put t d ρ with
    | none => rw [e1] at e; cases e
    | some ρ1 => rw [e1] at e; simp [Tg.puts_len ts ds e]
end
theorem tg_nm {i : Nat} (hN : X.N.Nodup) (hi : X.N[i]? = some x) (hx : Loc X.env.scope x) (hf : X.fn x = true ∨ X.env.scope.names.lookup x = some .local := by first | exact .inl rfl | exact .inr rfl | assumption) : PG X (.Name x pos) (Tg.rd X.K (.nm i)) := pg_name hN hi hx hf
theorem pg_or {tgx : Expr} {t t' : TG} (h : PG X tgx t) (h' : PG X tgx t') : PG X tgx (fun v σ H Q => t v σ H Q ∨ t' v σ H Q) := ⟨fun pins s σ H v u Q I r hw => hw.elim (h.run pins s σ H v u Q I r) (h'.run pins s σ H v u Q I r)⟩
theorem tg_tp {ts : List Tg} {k : Nat} (hc : X.calm = true) (h : PGs X es (Tg.rds X.K ts)) (hn : (assignEach es X.env).length = ts.length := by rfl) (hst : (assignEach es X.env).findIdx? (·.1) = none := by rfl) : PG X (.Tuple es k pos) (Tg.rd X.K (.tp ts)) := pg_or (pg_tup hc h hn hst) (L2.pg_lst hc h hn hst)
end
end VL

/-! VLk: loops, comprehensions. -/
namespace VL
open PySem PySem.Spec PyProof.Rows L2
variable [LamT]

/-! ### what is walked -/
noncomputable def Wk (C : Hp → Hp → Prop) (K : PySem.W.Frag) (B : Hp) (J : It) (ds : List D) : Prop :=
  ∀ (i : Nat) (G' H' : Hp), C G' H' → (∀ d, ds[i]? = some d → J.go i H' ∧ ∀ x H'', J.yld i H' x H'' → ∃ G'', Ext G' H' G'' H'' ∧ Dt K G'' B H'' x d ∧ d.old) ∧ (ds.length ≤ i → J.stop i H')
theorem walks_list {C : Hp → Hp → Prop} {K : PySem.W.Frag} {B : Hp} {p : Addr} {vs : List V} {ds : List D} (h : ∀ G' H', C G' H' → Sub G' H' ∧ SqL K H' p vs ∧ Dts K G' B H' vs ds) : Wk C K B (Itl K p) ds := fun i G' H' c => by
  obtain ⟨gh, q, hs⟩ := h G' H' c
  refine ⟨fun d e => ?_, fun hl => ⟨vs, q, by rw [hs.length]; exact hl⟩⟩
  obtain ⟨v, hv, n, hd⟩ := hs.get e
  refine ⟨⟨vs, v, q, hv⟩, fun x H'' ⟨e1, e2⟩ => ?_⟩
  subst e1
  have e3 := e2 vs q
  rw [hv] at e3
  cases e3
  exact ⟨G', Ext.refl gh, hd, n⟩
theorem walks_tup {C : Hp → Hp → Prop} {K : PySem.W.Frag} {B : Hp} {p : Addr} {vs : List V} {ds : List D} (h : ∀ G' H', C G' H' → Sub G' H' ∧ SqT K H' p vs ∧ Dts K G' B H' vs ds) : Wk C K B (Itt K p) ds := fun i G' H' c => by
  obtain ⟨gh, q, hs⟩ := h G' H' c
  refine ⟨fun d e => ?_, fun hl => ⟨vs, q, by rw [hs.length]; exact hl⟩⟩
  obtain ⟨v, hv, n, hd⟩ := hs.get e
  refine ⟨⟨vs, v, q, hv⟩, fun x H'' ⟨e1, e2⟩ => ?_⟩
  subst e1
  have e3 := e2 vs q
  rw [hv] at e3
  cases e3
  exact ⟨G', Ext.refl gh, hd, n⟩
noncomputable def rngD (lo : Int) (n : Nat) : List D := (List.range n).map fun i : Nat => D.int (lo + (i : Int))
theorem walks_range {C : Hp → Hp → Prop} {K : PySem.W.Frag} {B : Hp} {lo : Int} {n : Nat} (h : ∀ G' H', C G' H' → Sub G' H') : Wk C K B (Itr lo n) (rngD lo n) := fun i G' H' c => by
  refine ⟨fun d e => ?_, fun hl => by show n ≤ i; simpa [rngD] using hl⟩
  have hi : i < n := by
    have := (List.getElem?_eq_some_iff.mp e).1
    simpa [rngD] using this
  have e2 : d = .int (lo + i) := by
    unfold rngD at e
    rw [List.getElem?_map, List.getElem?_range hi] at e
    exact (Option.some.inj e).symm
  subst e2
  refine ⟨hi, fun x H'' ⟨e1, e2⟩ => ?_⟩
  subst e1 e2
  exact ⟨G', Ext.refl (h G' H'' c), ⟨_, .int _⟩, by simp [D.root]⟩
noncomputable def signsD (x : Str) : List D := x.cps.toList.map fun c => .str ⟨#[c]⟩
theorem walks_str {C : Hp → Hp → Prop} {K : PySem.W.Frag} {B : Hp} {x : Str} (h : ∀ G' H', C G' H' → Sub G' H') : Wk C K B (Its x) (signsD x) := fun i G' H' c => by
  refine ⟨fun d e => ?_, fun hl => by show x.cps.size ≤ i; simpa [signsD] using hl⟩
  have hi : i < x.cps.size := by
    have := (List.getElem?_eq_some_iff.mp e).1
    simpa [signsD] using this
  refine ⟨hi, fun v H'' ⟨e1, cc, e2, e3⟩ => ?_⟩
  subst e1 e3
  have e4 : d = .str ⟨#[cc]⟩ := by
    unfold signsD at e
    rw [List.getElem?_map] at e
    rw [Array.getElem?_toList, e2] at e
    exact (Option.some.inj e).symm
  subst e4
  exact ⟨G', Ext.refl (h G' H'' c), ⟨_, .str _⟩, by simp [D.root]⟩
/-- the items of what is walked -/
noncomputable def itemsD : D → Option (List D)
  | .lst _ ds => some ds
  | .tup ds => some ds
  | .tuk ds => some ds
  | .str z => some (signsD z)
  | _ => none

theorem upQ_at {K : PySem.W.Frag} {W : WX} {f : FQ} {σ : L2.St} {H : Hp} {R : VK} {G B : Hp} {As : List V} {ρ : Plc} {d : D} (so : SOk K G B H As σ ρ) (hf : f ρ = .ok d) (k : KQ K G B H R d) : upQ K W f σ H R := ⟨G, B, As, ρ, so, by rw [hf]; exact k⟩
theorem upQT_at {K : PySem.W.Frag} {W : WX} {f : FT} {σ : L2.St} {H : Hp} {R : Bool → Hp → Prop} {G B : Hp} {As : List V} {ρ : Plc} {d : Bool} (so : SOk K G B H As σ ρ) (hf : f ρ = .ok d) (k : KT G H R d) : upQT K W f σ H R := ⟨G, B, As, ρ, so, by rw [hf]; exact k⟩
/-! ### quiet -/
noncomputable abbrev FI := Plc → Out Exn (List D)
noncomputable def upQI (K : PySem.W.Frag) (W : WX) (f : FI) : TI := fun σ H R => ∃ (G B : Hp) (As : List V) (ρ : Plc), SOk K G B H As σ ρ ∧ (f ρ).P (fun ds => ∀ G' H' J, Ext G H G' H' → Wk (Ext G' H') K B J ds → R J H') (EX K W G B H σ)
noncomputable abbrev QI (X : Cx) (W : WX) (tg iter : Expr) (f : FI) : Prop := PI X tg iter (upQI X.K W f)
theorem piI {X : Cx} {tg e : Expr} {t t' : TI} (h : PI X tg e t) (i : ∀ σ H R, t' σ H R → t σ H R) : PI X tg e t' := ⟨fun pins s σ H R I q => h.run pins s σ H R I (i σ H R q)⟩
theorem PI.or {X : Cx} {tg e : Expr} {t t' : TI} (h : PI X tg e t) (h' : PI X tg e t') : PI X tg e (fun σ H R => t σ H R ∨ t' σ H R) := ⟨fun pins s σ H R I q => q.elim (h.run pins s σ H R I) (h'.run pins s σ H R I)⟩
section
variable {X : Cx} {W : WX} {tg a b e : Expr} {fa fb : FQ} {ga : FA} {pos p apos cpos : Pos}
noncomputable def iSeq (fa : FQ) : FI := fun ρ => (fa ρ).bind fun d => ofO (itemsD d)
theorem qi_seq (h : QE X W e fa) : QI X W tg e (iSeq fa) := piI (PI.or (pi_list h) (PI.or (pi_tup h) (pi_str h))) fun σ H R ⟨G, B, As, ρ, so, q⟩ => by
  unfold iSeq at q
  cases hf : fa ρ with
  | no => rw [hf] at q; exact q.elim
  | ex x => rw [hf] at q; exact .inl ⟨G, B, As, ρ, so, by rw [hf]; exact q⟩
  | ok d =>
    rw [hf] at q
    obtain ⟨ds, e1, k⟩ := out_opt (show (ofO (itemsD d)).P _ _ from q)
    cases d with
    | lst f xs =>
      cases e1
      refine .inl (upQ_at so hf fun G1 H1 v ex hd fr => ?_)
      have so1 := so.ext ex
      obtain ⟨p, vs, rfl, hp, hs⟩ := dt_lst ex.gh so1.bh hd
      exact ⟨p, rfl, ⟨vs, hp⟩, k G1 H1 _ ex (walks_list fun G2 H2 e2 => ⟨e2.gh, e2.h.seq hp, Dts.ext e2 hs⟩)⟩
    | tup xs =>
      cases e1
      refine .inr (.inl (upQ_at so hf fun G1 H1 v ex hd fr => ?_))
      obtain ⟨p, vs, rfl, hp, _, hs⟩ := dt_tup ex.gh hd
      exact ⟨p, rfl, ⟨vs, hp⟩, k G1 H1 _ ex (walks_tup fun G2 H2 e2 => ⟨e2.gh, e2.h.sqT hp, Dts.ext e2 hs⟩)⟩
    | tuk xs =>
      cases e1
      refine .inr (.inl (upQ_at so hf fun G1 H1 v ex hd fr => ?_))
      obtain ⟨p, vs, rfl, hp, hs⟩ := dt_tuk ex.gh hd
      exact ⟨p, rfl, ⟨vs, hp⟩, k G1 H1 _ ex (walks_tup fun G2 H2 e2 => ⟨e2.gh, e2.h.sqT hp, Dts.ext e2 hs⟩)⟩
    | str z =>
      cases e1
      refine .inr (.inr (upQ_at so hf fun G1 H1 v ex hd fr => ?_))
      exact ⟨z, dt_str hd, k G1 H1 _ ex (walks_str fun G2 H2 e2 => e2.gh)⟩
    | _ => cases e1
noncomputable def okR (i : Int) : Prop := -(2 ^ 62) ≤ i ∧ i < 2 ^ 62
instance (i : Int) : Decidable (okR i) := by unfold okR; infer_instance
noncomputable def rng1 : List D → Option (List D)
  | [.int j] => if okR j then some (rngD 0 j.toNat) else none
  | _ => none
noncomputable def iRange (r : List D → Option (List D)) (ga : FA) : FI := fun ρ => (ga ρ).bind fun xs => ofO (r xs)
theorem rng1_dt {K : PySem.W.Frag} {G B H : Hp} {xs : List V} {es ds : List D} (e1 : rng1 es = some ds) (hd : Dta K G B H xs es) : ∃ j : Int, xs = [.int j] ∧ okR j ∧ ds = rngD 0 j.toNat := by
  unfold rng1 at e1
  split at e1
  · obtain ⟨v, rfl, hv⟩ := dts1 hd
    split at e1
    · rename_i hc
      cases e1
      exact ⟨_, by rw [dt_int hv], hc, rfl⟩
    · cases e1
  · cases e1
theorem qi_range1 (hm : X.mg "range" = none) (ha : QA X W [a] ga) (hg : Gl X "range" := by rfl) (hs : starEach [a] X.env = [(false, eval a X.env)] := by rfl) : QI X W tg (.Call (.Name "range" p) [a] [] pos) (iRange rng1 ga) := piI (pi_range1 hg hm ha hs) fun σ H R ⟨G, B, As, ρ, so, q⟩ =>
  ⟨G, B, As, ρ, so, Out.P_mono (Out.P_bind.mp q) (fun xs q1 G1 H1 vs ex hd _ => by
    obtain ⟨ds, e1, k⟩ := out_opt q1
    obtain ⟨j, rfl, hj, rfl⟩ := rng1_dt e1 hd
    exact ⟨j, rfl, hj.1, hj.2, k G1 H1 _ ex (walks_range fun G2 H2 e2 => e2.gh)⟩) fun _ z => z⟩
end
/-! the comprehension's own names -/
mutual
noncomputable def Tg.vars : Tg → List Nat
  | .nm i => [i]
  | .tp ts => Tg.varsL ts
noncomputable def Tg.varsL : List Tg → List Nat
  | [] => []
  | t :: ts => Tg.vars t ++ Tg.varsL ts
end
theorem wipe_set {σ : L2.St} {i : Nat} {x : Option V} : ∀ {vs : List Nat}, i ∈ vs → wipe (σ.set i x) vs = wipe σ vs
  | [], h => by simp at h
  | v :: vs, h => by
    show (wipe (σ.set i x) vs).set v none = (wipe σ vs).set v none
    by_cases hi : i ∈ vs
    · rw [wipe_set hi]
    · have e : i = v := by simpa [hi] using h
      subst e
      have key : ∀ (vs : List Nat), i ∉ vs → wipe (σ.set i x) vs = (wipe σ vs).set i x := by
        intro vs
        induction vs with
        | nil => intro _; rfl
        | cons w ws ih =>
          intro hn
          have h1 : i ≠ w := fun e => hn (by simp [e])
          have h2 : i ∉ ws := fun e => hn (by simp [e])
          show (wipe (σ.set i x) ws).set w none = ((wipe σ ws).set w none).set i x
          rw [ih h2, List.set_comm _ _ h1]
      rw [key vs hi, List.set_set]
theorem wipe_wipe {σ : L2.St} : ∀ {vs : List Nat}, wipe (wipe σ vs) vs = wipe σ vs := by
  intro vs
  have key : ∀ (ws : List Nat), (∀ w ∈ ws, w ∈ vs) → wipe (wipe σ ws) vs = wipe σ vs := by
    intro ws
    induction ws with
    | nil => intro _; rfl
    | cons w ws ih =>
      intro h
      show wipe ((wipe σ ws).set w none) vs = _
      rw [wipe_set (h w (by simp)), ih fun x hx => h x (by simp [hx])]
  exact key vs fun _ h => h
theorem SOk.set {K : PySem.W.Frag} {G B H : Hp} {As : List V} {σ : L2.St} {ρ : Plc} {i : Nat} {v : V} {d : D} (s : SOk K G B H As σ ρ) (hd : Dt K G B H v d) (n : d.old) : SOk K G B H As (σ.set i (some v)) (ρ.setS i (.val d)) :=
  ⟨s.gh, s.bh, by simp [Plc.setS, s.len], fun j e q => by
    simp only [Plc.setS, List.getElem?_set] at q
    by_cases hij : i = j
    · subst hij
      by_cases hl : i < ρ.s.length
      · rw [if_pos rfl, if_pos hl] at q
        cases q
        exact ⟨n, v, by rw [List.getElem?_set, if_pos rfl, if_pos (by rw [← s.len]; exact hl)], hd⟩
      · rw [if_pos rfl, if_neg hl] at q; cases q
    · rw [if_neg hij] at q
      obtain ⟨n', w, h1, h2⟩ := s.at' j e q
      exact ⟨n', w, by rw [List.getElem?_set, if_neg hij]; exact h1, h2⟩, fun j k q => by
    simp only [Plc.setS, List.getElem?_set] at q
    by_cases hij : i = j
    · subst hij
      by_cases hl : i < ρ.s.length
      · rw [if_pos rfl, if_pos hl] at q; cases q
      · rw [if_pos rfl, if_neg hl] at q; cases q
    · rw [if_neg hij] at q
      obtain ⟨w, h1, h2⟩ := s.arg j k q
      exact ⟨w, by rw [List.getElem?_set, if_neg hij]; exact h1, h2⟩, s.ar⟩
theorem SOk.wipe1 {K : PySem.W.Frag} {G B H : Hp} {As : List V} {σ : L2.St} {ρ : Plc} {i : Nat} (s : SOk K G B H As σ ρ) : SOk K G B H As (σ.set i none) (ρ.setS i .no) :=
  ⟨s.gh, s.bh, by simp [Plc.setS, s.len], fun j e q => by
    simp only [Plc.setS, List.getElem?_set] at q
    by_cases hij : i = j
    · subst hij
      by_cases hl : i < ρ.s.length
      · rw [if_pos rfl, if_pos hl] at q; cases q
      · rw [if_pos rfl, if_neg hl] at q; cases q
    · rw [if_neg hij] at q
      obtain ⟨n', w, h1, h2⟩ := s.at' j e q
      exact ⟨n', w, by rw [List.getElem?_set, if_neg hij]; exact h1, h2⟩, fun j k q => by
    simp only [Plc.setS, List.getElem?_set] at q
    by_cases hij : i = j
    · subst hij
      by_cases hl : i < ρ.s.length
      · rw [if_pos rfl, if_pos hl] at q; cases q
      · rw [if_pos rfl, if_neg hl] at q; cases q
    · rw [if_neg hij] at q
      obtain ⟨w, h1, h2⟩ := s.arg j k q
      exact ⟨w, by rw [List.getElem?_set, if_neg hij]; exact h1, h2⟩, s.ar⟩
/-- the comprehension's slots are forgotten, in wipe's order -/
noncomputable def Plc.wipe (ρ : Plc) : List Nat → Plc
  | [] => ρ
  | v :: vs => (Plc.wipe ρ vs).setS v .no
theorem SOk.wipe {K : PySem.W.Frag} {G B H : Hp} {As : List V} {σ : L2.St} {ρ : Plc} (s : SOk K G B H As σ ρ) : ∀ vs : List Nat, SOk K G B H As (L2.wipe σ vs) (ρ.wipe vs)
  | [] => s
  | v :: vs => (SOk.wipe s vs).wipe1
mutual
theorem Tg.okQ {K : PySem.W.Frag} {G B H : Hp} {As : List V} {vs : List Nat} : ∀ (tg : Tg) {σ : L2.St} {ρ ρ' : Plc} {v : V} {d : D} {R : L2.St → Hp → Prop}, (∀ i ∈ tg.vars, i ∈ vs) → SOk K G B H As σ ρ → Dt K G B H v d → d.old → Tg.put tg d ρ = some ρ' →
    (∀ σ', SOk K G B H As σ' ρ' → wipe σ' vs = wipe σ vs → R σ' H) → Tg.rd K tg v σ H R
  | .nm i, σ, ρ, ρ', v, d, R, sub, s, hd, n, e, k => by
    simp only [Tg.put, Option.some.injEq] at e
    subst e
    exact k _ (s.set hd n) (wipe_set (sub i (by simp [Tg.vars])))
  | .tp ts, σ, ρ, ρ', v, d, R, sub, s, hd, n, e, k => by
    cases d with
    | tup ds =>
      obtain ⟨p, ws, rfl, hp, _, hs⟩ := dt_tup s.gh hd
      simp only [Tg.put] at e
      exact .inl ⟨_, _, rfl, hp, hs.length.trans (Tg.puts_len ts ds e), Tg.oksQ ts (by simpa [Tg.vars] using sub) s hs e k⟩
    | lst f ds =>
      cases f with
      | frz =>
        obtain ⟨p, ws, rfl, hp, hs⟩ := dt_lst s.gh s.bh hd
        simp only [Tg.put] at e
        exact .inr ⟨_, _, rfl, hp, hs.length.trans (Tg.puts_len ts ds e), Tg.oksQ ts (by simpa [Tg.vars] using sub) s hs e k⟩
      | bor =>
        obtain ⟨p, ws, rfl, hp, hs⟩ := dt_lst s.gh s.bh hd
        simp only [Tg.put] at e
        exact .inr ⟨_, _, rfl, hp, hs.length.trans (Tg.puts_len ts ds e), Tg.oksQ ts (by simpa [Tg.vars] using sub) s hs e k⟩
      | _ => simp [Tg.put] at e
    | _ => simp [Tg.put] at e
theorem Tg.oksQ {K : PySem.W.Frag} {G B H : Hp} {As : List V} {vs : List Nat} : ∀ (ts : List Tg) {σ : L2.St} {ρ ρ' : Plc} {ws : List V} {ds : List D} {R : L2.St → Hp → Prop}, (∀ i ∈ Tg.varsL ts, i ∈ vs) → SOk K G B H As σ ρ → Dts K G B H ws ds → Tg.puts ts ds ρ = some ρ' →
    (∀ σ', SOk K G B H As σ' ρ' → wipe σ' vs = wipe σ vs → R σ' H) → Tg.rds K ts ws σ H R
  | [], σ, ρ, ρ', ws, ds, R, sub, s, hs, e, k => by
    cases ds with
    | nil =>
      cases ws with
      | nil => simp only [Tg.puts, Option.some.injEq] at e; subst e; exact ⟨rfl, k _ s rfl⟩
      | cons _ _ => have := hs.length; simp at this
    | cons _ _ => simp [Tg.puts] at e
  | tg :: ts, σ, ρ, ρ', ws, ds, R, sub, s, hs, e, k => by
    cases ds with
    | nil => simp [Tg.puts] at e
    | cons d ds =>
      cases ws with
      | nil => have := hs.length; simp at this
      | cons w ws =>
        obtain ⟨n, h, hs⟩ := hs.uncons
        simp only [Tg.puts] at e
        cases e1 : Tg.put tg d ρ with
        | none => rw [e1] at e; cases e
        | some ρ1 =>
          rw [e1] at e
          exact ⟨_, _, rfl, Tg.okQ tg (fun i m => sub i (by simp [Tg.varsL, m])) s h n e1 fun σ' s' w' => Tg.oksQ ts (fun i m => sub i (by simp [Tg.varsL, m])) s' hs e fun σ2 s2 w2 => k σ2 s2 (w2.trans w')⟩
end
/-- one turn, then the rest -/
noncomputable def compV (tg : Tg) (tt : FT) (te : FQ) (ρ : Plc) : List D → Out Exn (List D)
  | [] => .ok []
  | d :: ds => match tg.put d ρ with
    | none => .no
    | some ρ1 => (tt ρ1).pure.bind fun b => if b = true then (te ρ1).pure.bind fun y => if y.st.noOwn = true then (compV tg tt te ρ ds).bind fun ys => .ok (y.st :: ys) else .no else compV tg tt te ρ ds
noncomputable def tYes : FT := fun _ => .ok true
noncomputable abbrev W0 : WX := fun _ _ _ _ => False
noncomputable abbrev QTs (X : Cx) (W : WX) (ifs : List Expr) (f : FT) : Prop := PTs X ifs (upQT X.K W f)
noncomputable def mkLc (ys : List D) : Out Exn D := if ys.length ≤ sizeLine then .ok (.lst .new ys) else .no
noncomputable def qLc (fi : FI) (tg : Tg) (tt : FT) (te : FQ) (vs : List Nat) : FQ := fun ρ => (fi ρ).bind fun ds => (compV tg tt te (ρ.wipe vs) ds).bind mkLc
section
variable {X : Cx} {W : WX} {pos : Pos}
theorem qts_nil : QTs X W [] tYes := ⟨fun pins s σ H R I ⟨G, B, As, ρ, so, q⟩ => pts_nil.run pins s σ H R I (q G H (Ext.refl so.gh))⟩
theorem qts_one {c : Expr} {t : FT} (h : QT X W c t) : QTs X W [c] t := pts_one h
theorem compV_inv {tg : Tg} {tt : FT} {te : FQ} {ρ : Plc} {d : D} {ds rest : List D} (h : compV tg tt te ρ (d :: ds) = .ok rest) : ∃ ρ1 b, tg.put d ρ = some ρ1 ∧ tt ρ1 = .ok b ∧ ((b = false ∧ compV tg tt te ρ ds = .ok rest) ∨ ∃ y ys, b = true ∧ te ρ1 = .ok y ∧ y.st.noOwn = true ∧ compV tg tt te ρ ds = .ok ys ∧ rest = y.st :: ys) := by
  simp only [compV] at h
  cases e : tg.put d ρ with
  | none => rw [e] at h; cases h
  | some ρ1 =>
    rw [e] at h
    simp only at h
    cases e2 : tt ρ1 with
    | no => rw [e2] at h; cases h
    | ex x => rw [e2] at h; cases h
    | ok b =>
      rw [e2] at h
      simp only [Out.pure, Out.bind] at h
      cases b with
      | false => exact ⟨ρ1, false, rfl, e2, .inl ⟨rfl, by simpa using h⟩⟩
      | true =>
        simp only [if_true] at h
        cases e3 : te ρ1 with
        | no => rw [e3] at h; cases h
        | ex x => rw [e3] at h; cases h
        | ok y =>
          rw [e3] at h
          simp only at h
          by_cases hn : y.st.noOwn = true
          · rw [if_pos hn] at h
            cases e4 : compV tg tt te ρ ds with
            | no => rw [e4] at h; cases h
            | ex x => rw [e4] at h; cases h
            | ok ys =>
              rw [e4] at h
              cases h
              exact ⟨ρ1, true, rfl, e2, .inr ⟨y, ys, rfl, e3, hn, rfl, rfl⟩⟩
          · rw [if_neg hn] at h; cases h
theorem compV_noex {tg : Tg} {tt : FT} {te : FQ} {ρ : Plc} : ∀ {ds : List D} {x : Exn}, compV tg tt te ρ ds ≠ .ex x
  | [], _, h => by cases h
  | d :: ds, x, h => by
    simp only [compV] at h
    cases e : tg.put d ρ with
    | none => rw [e] at h; cases h
    | some ρ1 =>
      rw [e] at h
      simp only at h
      cases e2 : tt ρ1 with
      | no => rw [e2] at h; cases h
      | ex y => rw [e2] at h; cases h
      | ok b =>
        rw [e2] at h
        simp only [Out.pure, Out.bind] at h
        cases b with
        | false => exact compV_noex (by simpa using h)
        | true =>
          simp only [if_true] at h
          cases e3 : te ρ1 with
          | no => rw [e3] at h; cases h
          | ex y => rw [e3] at h; cases h
          | ok y =>
            rw [e3] at h
            simp only at h
            by_cases hn : y.st.noOwn = true
            · rw [if_pos hn] at h
              cases e4 : compV tg tt te ρ ds with
              | no => rw [e4] at h; cases h
              | ex y => exact compV_noex e4
              | ok ys => rw [e4] at h; cases h
            · rw [if_neg hn] at h; cases h
theorem Dats.app0 {K : PySem.W.Frag} {G B H : Hp} {vs ws : List V} {ds es : List D} (h : Dats K G B H [] vs ds) (h' : Dats K G B H [] ws es) (n1 : D.allFL ownF ds = true) (n2 : D.allFL ownF es = true) : Dats K G B H [] (vs ++ ws) (ds ++ es) := by
  obtain ⟨S, q⟩ := Dts.append ⟨_, h⟩ ⟨_, h'⟩
  have := Dats.noS q (by rw [allFL_eq, List.all_append, ← allFL_eq, ← allFL_eq, n1, n2] <;> rfl)
  rw [this] at q
  exact q
theorem lc_ok {K : PySem.W.Frag} {G B : Hp} {As : List V} {H1 : Hp} {σ : L2.St} {ρ : Plc} {tg : Tg} {tt : FT} {te : FQ} {vs : List Nat} {J : It} {ds ys : List D} {Qf : Addr → Hp → Prop}
    (sub : ∀ i ∈ tg.vars, i ∈ vs) (so : SOk K G B H1 As σ ρ) (wk : Wk (Ext G H1) K B J ds) (q : compV tg tt te (ρ.wipe vs) ds = .ok ys) (hz : ys.length ≤ sizeLine)
    (k : ∀ (L : Addr) (G' H' : Hp) (us : List V), H1 L = none → Ext G H1 G' H' → G' L = none → H' L = some (.lst us) → Dats K G' B H' [] us ys → Qf L H') :
    ∀ L, H1 L = none → ∃ Wv : Nat → Nat → Hp → Prop, (∃ m, Wv 0 m (upd H1 L (.lst []))) ∧ ∀ i m H, Wv i m H →
      (J.stop i H ∧ Qf L H) ∨ (J.go i H ∧ ∃ Nx : Hp → Prop, (∀ H', Nx H' → ∃ m', m' < m ∧ Wv (i + 1) m' H') ∧ ∀ x H', J.yld i H x H' → Tg.rd K tg x (wipe σ vs) H' fun σ2 H2 => wipe σ2 vs = wipe σ vs ∧ upQT K W0 tt σ2 H2 fun b H3 =>
        if b = true then upQ K W0 te σ2 H3 fun y H4 => ∃ acc, H4 L = some (.lst acc) ∧ acc.length < sizeLine ∧ Nx (upd H4 L (.lst (acc ++ [y]))) else Nx H3) := by
  intro L hL
  refine ⟨fun i m H => m = ds.length - i ∧ i ≤ ds.length ∧ ∃ G' us acc rest, Ext G H1 G' H ∧ G' L = none ∧ H L = some (.lst us) ∧ Dats K G' B H [] us acc ∧ D.allFL ownF acc = true ∧ compV tg tt te (ρ.wipe vs) (ds.drop i) = .ok rest ∧ acc ++ rest = ys, ⟨ds.length, by simp, Nat.zero_le _, G, [], [], ys, Ext.lay so.gh hL, so.gh.n.z _ hL, upd_same, .nil, rfl, q, rfl⟩, ?_⟩
  rintro i m H ⟨rfl, hle, G', us, acc, rest, ex, gL, hHL, hd, hno, hc, hy⟩
  obtain ⟨w1, w2⟩ := wk i G' H ex
  by_cases hi : i < ds.length
  · obtain ⟨go, yl⟩ := w1 ds[i] (by simp [hi])
    rw [List.drop_eq_getElem_cons hi] at hc
    obtain ⟨ρ1, b, e1, e2, hcc⟩ := compV_inv hc
    refine .inr ⟨go, fun H2 => ∃ G2 us2 acc2 rest2, Ext G H1 G2 H2 ∧ G2 L = none ∧ H2 L = some (.lst us2) ∧ Dats K G2 B H2 [] us2 acc2 ∧ D.allFL ownF acc2 = true ∧ compV tg tt te (ρ.wipe vs) (ds.drop (i + 1)) = .ok rest2 ∧ acc2 ++ rest2 = ys, fun H2 z => ⟨ds.length - (i + 1), by omega, rfl, hi, z⟩, fun x H'' y => ?_⟩
    obtain ⟨G2, ex2, d2, n2⟩ := yl x H'' y
    have so2 := so.ext (ex.trans ex2)
    have stepL : ∀ {Ga Ha Gb Hb : Hp}, Ext Ga Ha Gb Hb → Ga L = none → Ha L = some (.lst us) → Gb L = none ∧ Hb L = some (.lst us) := fun {Ga Ha Gb Hb} e g h => by
      refine ⟨?_, e.h L _ h trivial⟩
      cases z : Gb L with
      | none => rfl
      | some u =>
        rcases e.new L u z with z | z
        · rw [g] at z; cases z
        · rw [h] at z; cases z
    obtain ⟨gL2, hL2⟩ := stepL ex2 gL hHL
    refine Tg.okQ tg sub (so2.wipe vs) d2 n2 e1 fun σ3 so3 e3 => ⟨by rw [e3, wipe_wipe], ?_⟩
    refine upQT_at so3 e2 fun G4 H4 ex4 => ?_
    obtain ⟨gL4, hL4⟩ := stepL ex4 gL2 hL2
    have hd4 : Dats K G4 B H4 [] us acc := hd.mono (fun p o e => (ex2.trans ex4).g p o e) (fun _ _ q => q) (fun a m => by cases m)
    rcases hcc with ⟨rfl, hc⟩ | ⟨y, zs, rfl, e5, hn, hc2, rfl⟩
    · exact iteF ⟨G4, us, acc, rest, (ex.trans ex2).trans ex4, gL4, hL4, hd4, hno, hc, hy⟩
    · refine iteT (upQ_at (so3.ext ex4) e5 fun G5 H5 v ex5 hv fr => ?_)
      obtain ⟨ex6, sm⟩ := grab_ext ex5
      have hv6 := st_dt ex5 hv fr
      obtain ⟨gL6, hL6⟩ := stepL ex6 gL4 hL4
      refine ⟨us, hL6, ?_, ?_⟩
      · have l1 := hd.length
        have : (acc ++ y.st :: zs).length = ys.length := by rw [hy]
        rw [List.length_append, List.length_cons] at this
        rw [l1]; omega
      · obtain ⟨S6, hv6⟩ := hv6
        have s6 := hv6.noS hn
        subst s6
        have exL := ((ex.trans ex2).trans ex4).trans ex6
        refine ⟨_, us ++ [v], acc ++ [y.st], zs, ⟨exL.h.put hL, exL.g, exL.new, exL.gh.put gL6 hL6⟩, gL6, upd_same, ?_, ?_, hc2, by rw [← hy]; simp⟩
        · refine Dats.app0 (hd4.mono (fun p o e => ex6.g p o e) (fun _ _ q => q) (fun a m => by cases m)) ?_ hno (by simp [D.allFL, hn])
          have := Dats.cons (K := K) (B := B) (st_old y) (hv6.mono (H' := upd H5 L (.lst (us ++ [v]))) (fun _ _ q => q) (fun _ _ q => q) (fun a m => by cases m)) .nil
          exact this
        · rw [allFL_eq, List.all_append, ← allFL_eq, hno]
          simp [hn]
  · rw [List.drop_of_length_le (by omega)] at hc
    cases hc
    rw [List.append_nil] at hy
    subst hy
    exact .inl ⟨w2 (by omega), k L G' H us hL ex gL hHL hd⟩
variable {elt tg' iter : Expr} {ifs : List Expr} {scope : Scope} {own : List (Str × Nat)} {fi : FI} {tg : Tg} {tt : FT} {te : FQ}
theorem lc_up {σ : L2.St} {H : Hp} {R : VK} (sub : ∀ i ∈ tg.vars, i ∈ own.map (·.2)) (h : upQ X.K W (qLc fi tg tt te (own.map (·.2))) σ H R) : tLc (upQI X.K W fi) (Tg.rd X.K tg) (upQT X.K W0 tt) (upQ X.K W0 te) (own.map (·.2)) σ H R := by
  obtain ⟨G, B, As, ρ, so, q⟩ := h
  refine ⟨G, B, As, ρ, so, Out.P_mono (Out.P_bind.mp q) (fun ds q1 G1 H1 J ex wk => ?_) fun _ z => z⟩
  cases e : compV tg tt te (ρ.wipe (own.map (·.2))) ds with
  | no => rw [e] at q1; exact q1.elim
  | ex x => exact absurd e compV_noex
  | ok ys =>
    rw [e] at q1
    obtain ⟨hz, k⟩ := Out.P_if (show (mkLc ys).P _ _ from q1)
    exact lc_ok sub (so.ext ex) wk e hz fun L G' H' us hL ex' gL hL' hd => k G' H' (.ref L) (ex.trans ex') ⟨_, .lst (f := .new) hL' hd⟩ fun _ => ⟨L, rfl, (ex.h.z _ hL), gL⟩
theorem qe_lc (hc : X.calm = true) (hN : X.N.Nodup) (hi : QI X W tg' iter fi) (ok : BlkOk X.N X.env.scope scope own) (sub : ∀ i ∈ tg.vars, i ∈ own.map (·.2))
    (hg : ∀ (s : Shared) (H : Hp) (C : Addr) (cl : List (Str × Addr)) (fp : List Addr), PG (X.blk s H scope (compEnvC scope cl C X.env) fp) tg' (Tg.rd X.K tg)) (ht : ∀ (s : Shared) (H : Hp) (C : Addr) (cl : List (Str × Addr)) (fp : List Addr), QTs (X.blk s H scope (compEnvC scope cl C X.env) fp) W0 ifs tt)
    (he : ∀ (s : Shared) (H : Hp) (C : Addr) (cl : List (Str × Addr)) (fp : List Addr), QE (X.blk s H scope (compEnvC scope cl C X.env) fp) W0 elt te) (hs : ∀ x, foldedSetIterable iter X.env x = pure x := by intro _; rfl) :
    QE X W (.ListComp elt [⟨tg', iter, ifs, 0⟩] scope pos) (qLc fi tg tt te (own.map (·.2))) := peI (pe_lc hc hN hi ok hg ht he hs) fun σ H R h => lc_up sub h
theorem vs_setLc {i : Nat} {y : Str} {py spos : Pos} (hc : X.calm = true) (hN : X.N.Nodup) (hy : X.N[i]? = some y) (hyl : X.env.scope.names.lookup y = some .local) (hsw : swapsWith (.ListComp elt [⟨tg', iter, ifs, 0⟩] scope pos) (some (.Name y py)) spos.line X.env = pure true)
    (hi : QI X W tg' iter fi) (ok : BlkOk X.N X.env.scope scope own) (sub : ∀ i ∈ tg.vars, i ∈ own.map (·.2))
    (hg : ∀ (s : Shared) (H : Hp) (C : Addr) (cl : List (Str × Addr)) (fp : List Addr), PG (X.blk s H scope (compEnvC scope cl C X.env) fp) tg' (Tg.rd X.K tg)) (ht : ∀ (s : Shared) (H : Hp) (C : Addr) (cl : List (Str × Addr)) (fp : List Addr), QTs (X.blk s H scope (compEnvC scope cl C X.env) fp) W0 ifs tt)
    (he : ∀ (s : Shared) (H : Hp) (C : Addr) (cl : List (Str × Addr)) (fp : List Addr), QE (X.blk s H scope (compEnvC scope cl C X.env) fp) W0 elt te) (hs : ∀ x, foldedSetIterable iter X.env x = pure x := by intro _; rfl) :
    VS X W (.Assign [.Name y py] (.ListComp elt [⟨tg', iter, ifs, 0⟩] scope pos) spos) (sSet i (gQ (qLc fi tg tt te (own.map (·.2))))) := psI (ps_setLc hc hN hy hyl hsw hi ok hg ht he hs) fun E σ H ⟨G, B, Φ, As, S, ρ, rp, q⟩ =>
  lc_up (R := fun v H' => E.nx (σ.set i (some v)) H') sub (gq_up (seqE_G rp q fun d ρ1 G1 H1 S1 v T s1 r1 hd n t q1 => q1 G1 H1 _ _ s1 (r1.set hd n t)))
end
end VL

/-! VLl: loops of statements. -/
namespace VL
open PySem PySem.Spec PyProof.Rows L2
variable [LamT]

mutual
theorem fz_noOwn : ∀ d : D, d.fz.noOwn = true
  | .tup xs => by simp only [D.fz, D.mapF, D.noOwn, D.allF]; exact fzL_noOwn xs
  | .tuk xs => by simp only [D.fz, D.mapF, D.noOwn, D.allF]; exact fzL_noOwn xs
  | .clo _ _ xs => by simp only [D.fz, D.mapF, D.noOwn, D.allF]; exact fzL_noOwn xs
  | .lst f xs => by
    simp only [D.fz, D.mapF, D.noOwn, D.allF, Bool.and_eq_true]
    exact ⟨by cases f <;> rfl, fzL_noOwn xs⟩
  | .dic f xs => by
    simp only [D.fz, D.mapF, D.noOwn, D.allF, Bool.and_eq_true]
    exact ⟨by cases f <;> rfl, fzK_noOwn xs⟩
  | .dit f xs => by
    simp only [D.fz, D.mapF, D.noOwn, D.allF, Bool.and_eq_true]
    exact ⟨by cases f <;> rfl, fzK_noOwn xs⟩
  | .din f xs => by
    simp only [D.fz, D.mapF, D.noOwn, D.allF]
    cases f <;> rfl
  | .obj f C xs => by
    simp only [D.fz, D.mapF, D.noOwn, D.allF, Bool.and_eq_true]
    exact ⟨by cases f <;> rfl, fzK_noOwn xs⟩
  | .non => rfl
  | .bl _ => rfl
  | .int _ => rfl
  | .str _ => rfl
  | .ty _ => rfl
  | .ref _ => rfl
  | .xc _ _ _ => rfl
theorem fzL_noOwn : ∀ ds : List D, D.allFL ownF (D.mapFL fzF ds) = true
  | [] => rfl
  | d :: ds => by rw [D.mapFL, D.allFL, fzL_noOwn ds]; exact (Bool.and_true _).trans (fz_noOwn d)
theorem fzK_noOwn : ∀ ds : List (Kd × D), D.allFK ownF (D.mapFK fzF ds) = true
  | [] => rfl
  | (k, d) :: ds => by rw [D.mapFK, D.allFK, fzK_noOwn ds]; exact (Bool.and_true _).trans (fz_noOwn d)
end
theorem ad_own {f : Fl} {p : Addr} (h : f.ad p = []) : ownF f = true := by cases f <;> first | rfl | cases h
mutual
theorem Dat.own0 {K : PySem.W.Frag} {G B H : Hp} : ∀ {S : List Addr} {v : V} {d : D}, Dat K G B H S v d → S = [] → d.noOwn = true
  | _, _, _, .non, _ => rfl
  | _, _, _, .bl b, _ => rfl
  | _, _, _, .int i, _ => rfl
  | _, _, _, .str x, _ => rfl
  | _, _, _, .ty n, _ => rfl
  | _, _, _, .ref a, _ => rfl
  | _, _, _, .xc h hf, _ => rfl
  | _, _, _, .tup h hs, e => by simpa [D.noOwn, D.allF] using Dats.own0 hs e
  | _, _, _, .tuk h hs, e => by simpa [D.noOwn, D.allF] using Dats.own0 hs e
  | _, _, _, .clo hs, e => by simpa [D.noOwn, D.allF] using Dats.own0 hs e
  | _, _, _, .lst h hs, e => by
    simp only [D.noOwn, D.allF, Bool.and_eq_true]
    exact ⟨ad_own (List.append_eq_nil_iff.mp e).1, Dats.own0 hs (List.append_eq_nil_iff.mp e).2⟩
  | _, _, _, .lok h hs, e => by
    simp only [D.noOwn, D.allF, Bool.and_eq_true]
    exact ⟨rfl, Dats.own0 hs e⟩
  | _, _, _, .dic h hs, e => by
    simp only [D.noOwn, D.allF, Bool.and_eq_true]
    exact ⟨ad_own (List.append_eq_nil_iff.mp e).1, DatM.own0 hs (List.append_eq_nil_iff.mp e).2⟩
  | _, _, _, .dit h hs, e => by
    simp only [D.noOwn, D.allF, Bool.and_eq_true]
    exact ⟨ad_own (List.append_eq_nil_iff.mp e).1, DatM.own0 hs (List.append_eq_nil_iff.mp e).2⟩
  | _, _, _, .din hw h hk eq, e => by
    simp only [D.noOwn, D.allF]
    exact ad_own (List.append_eq_nil_iff.mp e).1
  | _, _, _, .obj h hs, e => by
    simp only [D.noOwn, D.allF, Bool.and_eq_true]
    exact ⟨ad_own (List.append_eq_nil_iff.mp e).1, DatM.own0 hs (List.append_eq_nil_iff.mp e).2⟩
theorem Dats.own0 {K : PySem.W.Frag} {G B H : Hp} : ∀ {S : List Addr} {v : List V} {d : List D}, Dats K G B H S v d → S = [] → D.allFL ownF d = true
  | _, _, _, .nil, _ => rfl
  | _, _, _, .cons _ h t, e => by
    rw [D.allFL, Bool.and_eq_true]
    exact ⟨Dat.own0 h (List.append_eq_nil_iff.mp e).1, Dats.own0 t (List.append_eq_nil_iff.mp e).2⟩
theorem DatM.own0 {K : PySem.W.Frag} {G B H : Hp} : ∀ {S : List Addr} {v : List (Kd × V)} {d : List (Kd × D)}, DatM K G B H S v d → S = [] → D.allFK ownF d = true
  | _, _, _, .nil, _ => rfl
  | _, _, _, .cons _ h t, e => by
    rw [D.allFK, Bool.and_eq_true]
    exact ⟨Dat.own0 h (List.append_eq_nil_iff.mp e).1, DatM.own0 t (List.append_eq_nil_iff.mp e).2⟩
end
theorem items_noOwn {d : D} {ds : List D} (n : d.noOwn = true) (h : itemsD d = some ds) : D.allFL ownF ds = true := by
  cases d with
  | lst f xs => cases h; simp only [D.noOwn, D.allF, Bool.and_eq_true] at n; exact n.2
  | tup xs => cases h; simpa [D.noOwn, D.allF] using n
  | tuk xs => cases h; simpa [D.noOwn, D.allF] using n
  | str z =>
    cases h
    rw [allFL_eq, List.all_eq_true]
    intro d hd
    obtain ⟨c, _, rfl⟩ := List.mem_map.mp hd
    rfl
  | _ => cases h
/-! ### what is walked while places change -/
noncomputable abbrev FGI := Plc → Out (Exn × Plc) (List D × Plc)
noncomputable def Stay (G B : Hp) : Hp → Hp → Prop := fun G2 H2 => Same G G2 ∧ Sub G2 H2 ∧ SmN B H2
noncomputable def GKI (K : PySem.W.Frag) (G B Φ : Hp) (As : List V) (σ : L2.St) (R : It → Hp → Prop) (x : List D × Plc) : Prop := ∀ G' H' S' J, Same G G' → VRep K G' B Φ H' As S' σ x.2 → Wk (Stay G' B) K B J x.1 → D.allFL ownF x.1 = true → R J H'
noncomputable def upGI (K : PySem.W.Frag) (W : WX) (f : FGI) : TI := fun σ H R => ∃ (G B Φ : Hp) (As : List V) (S : Pi → List Addr) (ρ : Plc), VRep K G B Φ H As S σ ρ ∧ (f ρ).P (GKI K G B Φ As σ R) (GX K W G B Φ As σ)
noncomputable abbrev GI (X : Cx) (W : WX) (tg iter : Expr) (f : FGI) : Prop := PI X tg iter (upGI X.K W f)
noncomputable def ofOG {α : Type} (o : Option α) (ρ : Plc) : Out (Exn × Plc) (α × Plc) := match o with
  | some a => .ok (a, ρ)
  | none => .no
theorem outG_opt {α : Type} {o : Option α} {ρ : Plc} {P : α × Plc → Prop} {E : Exn × Plc → Prop} (h : (ofOG o ρ).P P E) : ∃ a, o = some a ∧ P (a, ρ) := by
  cases o with
  | none => exact h.elim
  | some a => exact ⟨a, rfl, h⟩
noncomputable def giSeq (ga : FG) : FGI := fun ρ => (ga ρ).bind fun x => ofOG (itemsD x.1.fz) x.2
noncomputable def giRange (r : List D → Option (List D)) (gs : FGA) : FGI := fun ρ => (gs ρ).bind fun x => ofOG (r x.1) x.2
section
variable {X : Cx} {W : WX} {tg a b e : Expr} {ga : FG} {gs : FGA} {pos p apos cpos : Pos}
theorem upG_at {K : PySem.W.Frag} {f : FG} {σ : L2.St} {H : Hp} {R : VK} {G B Φ : Hp} {As : List V} {S : Pi → List Addr} {ρ : Plc} {x : D × Plc} (r : VRep K G B Φ H As S σ ρ) (hf : f ρ = .ok x) (k : GK K G B Φ As σ R x) : upG K W f σ H R := ⟨G, B, Φ, As, S, ρ, r, by rw [hf]; exact k⟩
theorem dat_root {K : PySem.W.Frag} {G B H : Hp} (gh : Sub G H) (bh : SmN B H) : ∀ {v : V} {f : Fl} {ds : List D}, Dt K G B H v (.lst f ds) → D.noOwn (.lst f ds) = true → ∃ p vs, v = .ref p ∧ Dts K G B H vs ds ∧ ∀ G2 H2, Stay G B G2 H2 → SqL K H2 p vs := fun {v f ds} hd n => by
  obtain ⟨T, hd⟩ := hd
  cases hd with
  | lst h hs =>
    refine ⟨_, _, rfl, ⟨_, hs⟩, fun G2 H2 ⟨s1, s2, s3⟩ => SqL.of ?_⟩
    simp only [D.noOwn, D.allF, Bool.and_eq_true] at n
    cases f with
    | own => exact absurd n.1 (by decide)
    | new => exact absurd n.1 (by decide)
    | frz => exact s2 _ _ (s1 _ _ h) trivial
    | bor => rcases h with h | h
             · exact s3 _ _ h trivial
             · exact s2 _ _ (s1 _ _ h) trivial
    | loc => exact h.elim
  | lok h hs => exact ⟨_, _, rfl, ⟨_, hs⟩, fun G2 H2 ⟨s1, s2, s3⟩ => h.elim s3.seq fun q => s2.seq (s1.seq q)⟩
theorem stay_dts {K : PySem.W.Frag} {G B H G2 H2 : Hp} {vs : List V} {ds : List D} (st : Stay G B G2 H2) (h : Dts K G B H vs ds) (n : D.allFL ownF ds = true) : Dts K G2 B H2 vs ds := by
  obtain ⟨T, h⟩ := h
  have s := Dats.noS h n
  subst s
  exact ⟨[], h.mono st.1 (fun _ _ q => q) (fun a m => by cases m)⟩
theorem gi_seq (h : GE X W e ga) : GI X W tg e (giSeq ga) := piI (PI.or (pi_list h) (PI.or (pi_tup h) (pi_str h))) fun σ H R ⟨G, B, Φ, As, S, ρ, rp, q⟩ => by
  unfold giSeq at q
  cases hf : ga ρ with
  | no => rw [hf] at q; exact q.elim
  | ex x => rw [hf] at q; exact .inl ⟨G, B, Φ, As, S, ρ, rp, by rw [hf]; exact q⟩
  | ok x =>
    rw [hf] at q
    obtain ⟨ds, e1, k⟩ := outG_opt (show (ofOG (itemsD x.1.fz) x.2).P _ _ from q)
    have no := items_noOwn (fz_noOwn x.1) e1
    -- settled
    have key : ∀ {G1 H1 S1 v T}, Same G G1 → VRep X.K G1 B Φ H1 As S1 σ x.2 → Dat X.K G1 B H1 T v x.1 → TOk T S1 G1 Φ H1 → ∃ G2, Same G G2 ∧ VRep X.K G2 B Φ H1 As S1 σ x.2 ∧ Dat X.K G2 B H1 [] v x.1.fz := fun {G1 H1 S1 v T} s r hd t =>
      ⟨_, s.trans (more_same fun a m => (t.2 a m).2.1), r.more t, dat_fz hd fun a m => (t.2 a m).2.1⟩
    cases hz : x.1.fz with
    | lst f xs =>
      rw [hz] at e1
      cases e1
      refine .inl (upG_at rp hf fun G1 H1 S1 v T s1 r1 hd n t => ?_)
      obtain ⟨G2, s2, r2, hd2⟩ := key s1 r1 hd t
      rw [hz] at hd2
      obtain ⟨p, vs, rfl, hs, st⟩ := dat_root r2.gh (bh_of r2) ⟨_, hd2⟩ (by rw [← hz]; exact fz_noOwn _)
      exact ⟨p, rfl, ⟨vs, st G2 H1 ⟨fun _ _ e => e, r2.gh, bh_of r2⟩⟩, k G2 H1 S1 _ s2 r2 (walks_list fun G3 H3 st3 => ⟨st3.2.1, st G3 H3 st3, stay_dts st3 hs no⟩) no⟩
    | tup xs =>
      rw [hz] at e1
      cases e1
      refine .inr (.inl (upG_at rp hf fun G1 H1 S1 v T s1 r1 hd n t => ?_))
      obtain ⟨G2, s2, r2, hd2⟩ := key s1 r1 hd t
      rw [hz] at hd2
      obtain ⟨p, vs, rfl, hp, hp2, hs⟩ := dt_tup r2.gh ⟨_, hd2⟩
      exact ⟨p, rfl, ⟨vs, hp⟩, k G2 H1 S1 _ s2 r2 (walks_tup fun G3 H3 st3 => ⟨st3.2.1, st3.2.1.n.sqT (Same.sqT st3.1 hp2.sq), stay_dts st3 hs no⟩) no⟩
    | tuk us =>
      rw [hz] at e1
      cases e1
      refine .inr (.inl (upG_at rp hf fun G1 H1 S1 v T s1 r1 hd n t => ?_))
      obtain ⟨G2, s2, r2, hd2⟩ := key s1 r1 hd t
      rw [hz] at hd2
      have hd3 := (⟨_, hd2⟩ : Dt X.K G2 B H1 v _)
      obtain ⟨_, hd3⟩ := hd3
      cases hd3 with
      | tuk hp hs => exact ⟨_, rfl, ⟨_, r2.gh.n.sqT hp⟩, k G2 H1 S1 _ s2 r2 (walks_tup fun G3 H3 st3 => ⟨st3.2.1, st3.2.1.n.sqT (Same.sqT st3.1 hp), stay_dts st3 ⟨_, hs⟩ no⟩) no⟩
    | str z =>
      rw [hz] at e1
      cases e1
      refine .inr (.inr (upG_at rp hf fun G1 H1 S1 v T s1 r1 hd n t => ?_))
      obtain ⟨G2, s2, r2, hd2⟩ := key s1 r1 hd t
      rw [hz] at hd2
      exact ⟨z, dt_str ⟨_, hd2⟩, k G2 H1 S1 _ s2 r2 (walks_str fun G3 H3 st3 => st3.2.1) no⟩
    | _ => rw [hz] at e1; cases e1
theorem rng_noOwn {lo : Int} {n : Nat} : D.allFL ownF (rngD lo n) = true := by
  rw [allFL_eq, List.all_eq_true]
  intro d hd
  obtain ⟨c, _, rfl⟩ := List.mem_map.mp hd
  rfl
theorem gi_range1 (hm : X.mg "range" = none) (ha : GA X W [a] gs) (hg : Gl X "range" := by rfl) (hs : starEach [a] X.env = [(false, eval a X.env)] := by rfl) : GI X W tg (.Call (.Name "range" p) [a] [] pos) (giRange rng1 gs) := piI (pi_range1 hg hm ha hs) fun σ H R ⟨G, B, Φ, As, S, ρ, rp, q⟩ =>
  ⟨G, B, Φ, As, S, ρ, rp, Out.P_mono (Out.P_bind.mp q) (fun x q1 G1 H1 S1 vs s1 r1 hd => by
    obtain ⟨ds, e1, k⟩ := outG_opt q1
    obtain ⟨j, rfl, hj, rfl⟩ := rng1_dt e1 (Dats.ta hd)
    exact ⟨j, rfl, hj.1, hj.2, k G1 H1 S1 _ s1 r1 (walks_range fun G2 H2 e2 => e2.2.1) rng_noOwn⟩) fun _ z => z⟩
/-! ### for -/
noncomputable def forV (tg : Tg) (body : FS) : List D → FS
  | [] => fun ρ => .nx ρ
  | d :: ds => fun ρ => match tg.put d ρ with
    | none => .no
    | some ρ1 => match body ρ1 with
      | .nx ρ2 => forV tg body ds ρ2
      | .ct ρ2 => forV tg body ds ρ2
      | .bk ρ2 => .nx ρ2
      | o => o
noncomputable def sFor (gi : FGI) (tg : Tg) (body : FS) : FS := fun ρ => seqE (gi ρ) fun ds ρ1 => forV tg body ds ρ1
theorem vs_for {tgx iter : Expr} {body : List Stmt} {gi : FGI} {tg : Tg} {tb : FS} (hp : PassesOwn (model X.prog X.w) X.A X.env X.xe) (hc : X.calm = true) (hi : GI X W tgx iter gi) (hg : PG X tgx (tg.rd X.K)) (hb : VSs X W body tb)
    (hs : ∀ x, foldedSetIterable iter X.env x = pure x := by intro _; rfl) : VS X W (.For tgx iter body [] pos) (sFor gi tg tb) := psI (ps_for hp hc hi hg hb hs) fun E σ H ⟨G, B, Φ, As, S, ρ, rp, q⟩ => by
  refine ⟨G, B, Φ, As, S, ρ, rp, ?_⟩
  unfold sFor seqE at q
  cases hf : gi ρ with
  | no => rw [hf] at q; exact q.elim
  | ex x => rw [hf] at q; exact fun G' H' S' cls dx s r er => q G' H' S' σ cls dx s r er
  | ok x =>
    rw [hf] at q
    obtain ⟨ds, ρ0⟩ := x
    intro G1 H1 S1 J s1 r1 wk no
    replace wk : Wk (Stay G1 B) X.K B J ds := wk
    replace no : D.allFL ownF ds = true := no
    replace r1 : VRep X.K G1 B Φ H1 As S1 σ ρ0 := r1
    refine ⟨fun i m σ' H' => m = ds.length - i ∧ i ≤ ds.length ∧ ∃ G' S' ρ', Same G1 G' ∧ VRep X.K G' B Φ H' As S' σ' ρ' ∧ (forV tg tb (ds.drop i) ρ').End X.K W G B Φ As E, ⟨ds.length, by simp, Nat.zero_le _, G1, S1, ρ0, fun _ _ e => e, r1, q⟩, ?_⟩
    rintro i m σ' H' ⟨rfl, hle, G', S', ρ', s', r', q'⟩
    obtain ⟨w1, w2⟩ := wk i G' H' ⟨s', r'.gh, bh_of r'⟩
    by_cases hi : i < ds.length
    · obtain ⟨go, yl⟩ := w1 ds[i] (by simp [hi])
      rw [List.drop_eq_getElem_cons hi] at q'
      simp only [forV] at q'
      refine .inr ⟨go, fun σ2 H2 => ∃ G2 S2 ρ2, Same G1 G2 ∧ VRep X.K G2 B Φ H2 As S2 σ2 ρ2 ∧ (forV tg tb (ds.drop (i + 1)) ρ2).End X.K W G B Φ As E, fun σ2 H2 z => ⟨ds.length - (i + 1), by omega, rfl, hi, z⟩, fun x H'' y => ?_⟩
      obtain ⟨G2, ex2, d2, n2⟩ := yl x H'' y
      have nod : ds[i].noOwn = true := by
        rw [allFL_eq, List.all_eq_true] at no
        exact no _ (List.getElem_mem hi)
      obtain ⟨T, d2⟩ := d2
      have hT := d2.noS nod
      subst hT
      have r2 := r'.ext ex2
      cases e1 : tg.put ds[i] ρ' with
      | none => rw [e1] at q'; exact q'.elim
      | some ρ1 =>
        rw [e1] at q'
        simp only at q'
        have s2 : Same G G2 := (s1.trans s').trans ex2.g
        refine Tg.ok tg (U := []) r2 d2 n2 .nil e1 fun S3 σ3 r3 _ => ⟨G2, B, Φ, As, S3, ρ1, r3, ?_⟩
        cases eb : tb ρ1 with
        | nx ρ2 => rw [eb] at q'; exact fun G4 H4 S4 σ4 s4 r4 => ⟨G4, S4, ρ2, (s'.trans ex2.g).trans s4, r4, q'⟩
        | ct ρ2 => rw [eb] at q'; exact fun G4 H4 S4 σ4 s4 r4 => ⟨G4, S4, ρ2, (s'.trans ex2.g).trans s4, r4, q'⟩
        | bk ρ2 => rw [eb] at q'; exact fun G4 H4 S4 σ4 s4 r4 => q' G4 H4 S4 σ4 (s2.trans s4) r4
        | rt d ρ2 => rw [eb] at q'; exact fun G4 H4 S4 σ4 v T s4 => q' G4 H4 S4 σ4 v T (s2.trans s4)
        | ex e ρ2 => rw [eb] at q'; exact fun G4 H4 S4 σ4 cls dx s4 => q' G4 H4 S4 σ4 cls dx (s2.trans s4)
        | no => rw [eb] at q'; exact q'.elim
    · rw [List.drop_of_length_le (by omega)] at q'
      exact .inl ⟨w2 (by omega), q' G' H' S' σ' (s1.trans s') r'⟩

/-! ### while -/
noncomputable def whN (t : FGT) (body : FS) : Nat → FS
  | 0 => fun _ => .no
  | n + 1 => fun ρ => seqE (t ρ) fun b ρ1 => if b = true then (match body ρ1 with
      | .nx ρ2 => whN t body n ρ2
      | .ct ρ2 => whN t body n ρ2
      | .bk ρ2 => .nx ρ2
      | o => o) else .nx ρ1
open Classical in
noncomputable def sWhile (t : FGT) (body : FS) : FS := fun ρ => if h : ∃ n, whN t body n ρ ≠ .no then whN t body (Classical.choose h) ρ else .no
theorem whN_s {t : FGT} {body : FS} {n : Nat} {ρ : Plc} : whN t body (n + 1) ρ = seqE (t ρ) fun b ρ1 => if b = true then (match body ρ1 with
      | .nx ρ2 => whN t body n ρ2
      | .ct ρ2 => whN t body n ρ2
      | .bk ρ2 => .nx ρ2
      | o => o) else .nx ρ1 := rfl
theorem whN_succ {t : FGT} {body : FS} : ∀ {n : Nat} {ρ : Plc}, whN t body n ρ ≠ .no → whN t body (n + 1) ρ = whN t body n ρ
  | 0, ρ, h => absurd rfl h
  | n + 1, ρ, h => by
    rw [whN_s] at h
    rw [whN_s (n := n + 1), whN_s (n := n)]
    cases e : t ρ with
    | no => rfl
    | ex x => rfl
    | ok x =>
      rw [e] at h
      simp only [seqE] at h ⊢
      by_cases hb : x.1 = true
      · rw [if_pos hb] at h ⊢
        rw [if_pos hb]
        cases eb : body x.2 with
        | nx ρ2 => rw [eb] at h; exact whN_succ h
        | ct ρ2 => rw [eb] at h; exact whN_succ h
        | _ => rfl
      · rw [if_neg hb, if_neg hb]
theorem whN_le {t : FGT} {body : FS} {ρ : Plc} {n : Nat} (h : whN t body n ρ ≠ .no) : ∀ k, whN t body (n + k) ρ = whN t body n ρ
  | 0 => rfl
  | k + 1 => by
    have := whN_le h k
    rw [← Nat.add_assoc, whN_succ (by rw [this]; exact h), this]
theorem sWhile_of {t : FGT} {body : FS} {ρ : Plc} {n : Nat} (h : whN t body n ρ ≠ .no) : sWhile t body ρ = whN t body n ρ := by
  unfold sWhile
  have hx : ∃ n, whN t body n ρ ≠ .no := ⟨n, h⟩
  rw [dif_pos hx]
  have h2 := Classical.choose_spec hx
  generalize Classical.choose hx = m at h2
  rcases Nat.le_total m n with q | q
  · obtain ⟨k, rfl⟩ := Nat.exists_eq_add_of_le q
    exact (whN_le h2 k).symm
  · obtain ⟨k, rfl⟩ := Nat.exists_eq_add_of_le q
    exact whN_le h k
theorem sWhile_n {t : FGT} {body : FS} {ρ : Plc} (h : sWhile t body ρ ≠ .no) : ∃ n, whN t body n ρ = sWhile t body ρ := by
  unfold sWhile at h ⊢
  by_cases hx : ∃ n, whN t body n ρ ≠ .no
  · rw [dif_pos hx]; exact ⟨_, rfl⟩
  · rw [dif_neg hx] at h; exact absurd rfl h
/-- a while loop by one turn -/
theorem sWhile_step {t : FGT} {body : FS} {ρ : Plc} {o : OS} (ho : o ≠ .no) (h : (seqE (t ρ) fun b ρ1 => if b = true then (match body ρ1 with
      | .nx ρ2 => sWhile t body ρ2
      | .ct ρ2 => sWhile t body ρ2
      | .bk ρ2 => .nx ρ2
      | o => o) else .nx ρ1) = o) : sWhile t body ρ = o := by
  have : ∃ n, whN t body n ρ = o := by
    cases e : t ρ with
    | no => rw [e] at h; exact absurd h.symm ho
    | ex x => rw [e] at h; exact ⟨1, by rw [whN_s, e]; exact h⟩
    | ok x =>
      rw [e] at h
      simp only [seqE] at h
      by_cases hb : x.1 = true
      · rw [if_pos hb] at h
        cases eb : body x.2 with
        | nx ρ2 =>
          rw [eb] at h
          replace h : sWhile t body ρ2 = o := h
          obtain ⟨n, hn⟩ := sWhile_n (t := t) (body := body) (ρ := ρ2) (by rw [h]; exact ho)
          rw [h] at hn
          exact ⟨n + 1, by rw [whN_s, e]; simp only [seqE, hb, if_true, eb, hn]⟩
        | ct ρ2 =>
          rw [eb] at h
          replace h : sWhile t body ρ2 = o := h
          obtain ⟨n, hn⟩ := sWhile_n (t := t) (body := body) (ρ := ρ2) (by rw [h]; exact ho)
          rw [h] at hn
          exact ⟨n + 1, by rw [whN_s, e]; simp only [seqE, hb, if_true, eb, hn]⟩
        | bk ρ2 => rw [eb] at h; exact ⟨1, by rw [whN_s, e]; simp only [seqE, hb, if_true, eb]; exact h⟩
        | rt d ρ2 => rw [eb] at h; exact ⟨1, by rw [whN_s, e]; simp only [seqE, hb, if_true, eb]; exact h⟩
        | ex d ρ2 => rw [eb] at h; exact ⟨1, by rw [whN_s, e]; simp only [seqE, hb, if_true, eb]; exact h⟩
        | no => rw [eb] at h; exact absurd h.symm ho
      · rw [if_neg hb] at h
        exact ⟨1, by rw [whN_s, e]; simp only [seqE]; rw [if_neg hb]; exact h⟩
  obtain ⟨n, hn⟩ := this
  rw [← hn]
  exact sWhile_of (by rw [hn]; exact ho)
theorem vs_while {c : Expr} {body : List Stmt} {t : FGT} {tb : FS} (hp : PassesOwn (model X.prog X.w) X.A X.env X.xe) (hc : GT X W c t) (hb : VSs X W body tb) : VS X W (.While c body [] pos) (sWhile t tb) := psI (ps_while hp hc hb) fun E σ H ⟨G, B, Φ, As, S, ρ, rp, q⟩ => by
  have hne : sWhile t tb ρ ≠ .no := fun z => by rw [z] at q; exact q
  obtain ⟨n, hn⟩ := sWhile_n hne
  rw [← hn] at q
  refine ⟨fun m σ' H' => ∃ G' S' ρ', Same G G' ∧ VRep X.K G' B Φ H' As S' σ' ρ' ∧ (whN t tb m ρ').End X.K W G B Φ As E, ⟨n, G, S, ρ, fun _ _ e => e, rp, q⟩, ?_⟩
  rintro m σ' H' ⟨G', S', ρ', s', r', q'⟩
  cases m with
  | zero => exact q'.elim
  | succ m =>
    rw [whN_s] at q'
    refine ⟨G', B, Φ, As, S', ρ', r', ?_⟩
    cases e : t ρ' with
    | no => rw [e] at q'; exact q'.elim
    | ex x => rw [e] at q'; exact fun G1 H1 S1 cls dx s r er => q' G1 H1 S1 σ' cls dx (s'.trans s) r er
    | ok x =>
      rw [e] at q'
      simp only [seqE] at q'
      obtain ⟨b, ρ1⟩ := x
      intro G1 H1 S1 s1 r1
      replace r1 : VRep X.K G1 B Φ H1 As S1 σ' ρ1 := r1
      cases b with
      | false => exact iteF ((show OS.End X.K W G B Φ As E (.nx ρ1) from by simpa using q') G1 H1 S1 σ' (s'.trans s1) r1)
      | true =>
        simp only [if_true] at q'
        refine iteT ⟨fun σ4 H4 => ∃ G4 S4 ρ4, Same G G4 ∧ VRep X.K G4 B Φ H4 As S4 σ4 ρ4 ∧ (whN t tb m ρ4).End X.K W G B Φ As E, fun σ4 H4 z => ⟨m, Nat.lt_succ_self _, z⟩, G1, B, Φ, As, S1, ρ1, r1, ?_⟩
        have ss := s'.trans s1
        cases eb : tb ρ1 with
        | nx ρ2 => rw [eb] at q'; exact fun G4 H4 S4 σ4 s4 r4 => ⟨G4, S4, ρ2, ss.trans s4, r4, q'⟩
        | ct ρ2 => rw [eb] at q'; exact fun G4 H4 S4 σ4 s4 r4 => ⟨G4, S4, ρ2, ss.trans s4, r4, q'⟩
        | bk ρ2 => rw [eb] at q'; exact fun G4 H4 S4 σ4 s4 r4 => q' G4 H4 S4 σ4 (ss.trans s4) r4
        | rt d ρ2 => rw [eb] at q'; exact fun G4 H4 S4 σ4 v T s4 => q' G4 H4 S4 σ4 v T (ss.trans s4)
        | ex e ρ2 => rw [eb] at q'; exact fun G4 H4 S4 σ4 cls dx s4 => q' G4 H4 S4 σ4 cls dx (ss.trans s4)
        | no => rw [eb] at q'; exact q'.elim
end
end VL

/-! VLm: defs as functions on trees. -/
namespace VL
open PySem PySem.Spec PyProof.Rows L2
variable [LamT]

/-- an argument is lent, settled, may be changed, or is lent with what is settled in it seen so -/
inductive Md where
  | r | k | m | s
  deriving DecidableEq
inductive OF where
  | rt (d : D) (os : List (Option D)) | ex (x : Exn) (os : List (Option D)) | no
noncomputable abbrev Fn := List D → OF
noncomputable def lentF : Fl → Bool
  | .bor => true
  | .loc => true
  | _ => false
noncomputable abbrev D.lent (d : D) : Bool := d.allF lentF
noncomputable def seenF : Fl → Bool
  | .bor => true
  | .loc => true
  | .frz => true
  | _ => false
noncomputable abbrev D.seen (d : D) : Bool := d.allF seenF
noncomputable def MOk : Md → List Addr → D → Prop
  | .r, T, d => T = [] ∧ d.lent = true
  | .s, T, d => T = [] ∧ d.seen = true
  | .k, T, d => T = [] ∧ d.kept = true
  | .m, _, d => d.old ∧ d.noBor = true
structure Regs (G B H : Hp) (Sa : Nat → List Addr) : Prop where
  nd : ∀ j, (Sa j).Nodup
  dj : ∀ i j a, i ≠ j → a ∈ Sa i → a ∉ Sa j
  fr : ∀ j a, a ∈ Sa j → G a = none ∧ B a = none ∧ ∃ o, H a = some o ∧ HO.free o
structure CIn (K : PySem.W.Frag) (G B H : Hp) (ms : List Md) (Sa : Nat → List Addr) (vs : List V) (ds : List D) : Prop where
  gh : Sub G H
  bh : SmN B H
  dis : ∀ a o, B a = some o → G a = none
  vl : vs.length = ms.length
  dl : ds.length = ms.length
  at' : ∀ (j : Nat) (md : Md) (v : V) (d : D), ms[j]? = some md → vs[j]? = some v → ds[j]? = some d → Dat K G B H (Sa j) v d ∧ MOk md (Sa j) d
  rg : Regs G B H Sa
structure COut (K : PySem.W.Frag) (G B H : Hp) (ms : List Md) (Sa : Nat → List Addr) (vs : List V) (os : List (Option D)) : Prop where
  at' : ∀ (j : Nat), ms[j]? = some .m → ∃ d v, os[j]? = some (some d) ∧ vs[j]? = some v ∧ Dat K G B H (Sa j) v d ∧ d.old ∧ d.noBor = true
  rg : Regs G B H Sa
/-- what the call leaves -/
structure Left (G B G' H' : Hp) : Prop where
  g : Same G G'
  gh : Sub G' H'
  bh : SmN B H'
  dis : ∀ a o, B a = some o → G' a = none
noncomputable def Exn.plain (x : Exn) : Bool := match x.flds with
  | none => true
  | some fs => D.allFK plainF fs
noncomputable def liftF (K : PySem.W.Frag) (ms : List Md) (F : Fn) : Sp := fun vs H Q E => ∃ (G B : Hp) (Sa : Nat → List Addr) (ds : List D), CIn K G B H ms Sa vs ds ∧ match F ds with
  | .rt d os => ∀ (G' H' : Hp) (Sa' : Nat → List Addr) (v : V) (T : List Addr), Left G B G' H' → COut K G' B H' ms Sa' vs os → Dat K G' B H' T v d → d.old → d.noBor = true → T.Nodup → (∀ a ∈ T, (∀ j, a ∉ Sa' j) ∧ G' a = none ∧ B a = none ∧ ∃ o, H' a = some o ∧ HO.free o) → Q v H'
  | .ex x os => ∀ (G' H' : Hp) (Sa' : Nat → List Addr) (cls : Value) (dx : Option Addr), Left G B G' H' → COut K G' B H' ms Sa' vs os → ExnR K G' B H' x cls dx → x.plain = true → E cls dx H'
  | .no => False

/-! ### a def by its body -/
noncomputable def stS : Nat → List Md → List D → List Sl
  | j, .m :: ms, _ :: ds => .arg j :: stS (j + 1) ms ds
  | j, .r :: ms, d :: ds => .val d :: stS (j + 1) ms ds
  | j, .k :: ms, d :: ds => .val d :: stS (j + 1) ms ds
  | j, .s :: ms, d :: ds => .val d :: stS (j + 1) ms ds
  | _, _, _ => []
noncomputable def stA : List Md → List D → List (Option D)
  | .m :: ms, d :: ds => some d :: stA ms ds
  | .r :: ms, _ :: ds => none :: stA ms ds
  | .k :: ms, _ :: ds => none :: stA ms ds
  | .s :: ms, _ :: ds => none :: stA ms ds
  | _, _ => []
noncomputable def startP (n : Nat) (ms : List Md) (ds : List D) : Plc := ⟨stS 0 ms ds ++ List.replicate (n - ms.length) .no, stA ms ds⟩
theorem stS_len : ∀ {o : Nat} {ms : List Md} {ds : List D}, ds.length = ms.length → (stS o ms ds).length = ms.length
  | _, [], [], _ => rfl
  | _, [], _ :: _, h => by simp at h
  | _, _ :: _, [], h => by simp at h
  | o, md :: ms, d :: ds, h => by
    have := stS_len (o := o + 1) (ms := ms) (ds := ds) (by simpa using h)
    cases md <;> simp [stS, this]
theorem stA_len : ∀ {ms : List Md} {ds : List D}, ds.length = ms.length → (stA ms ds).length = ms.length
  | [], [], _ => rfl
  | [], _ :: _, h => by simp at h
  | _ :: _, [], h => by simp at h
  | md :: ms, d :: ds, h => by
    have := stA_len (ms := ms) (ds := ds) (by simpa using h)
    cases md <;> simp [stA, this]
theorem stS_val : ∀ {o : Nat} {ms : List Md} {ds : List D} {j : Nat} {d : D}, (stS o ms ds)[j]? = some (.val d) → ∃ md, ms[j]? = some md ∧ md ≠ .m ∧ ds[j]? = some d
  | _, [], _, _, _, h => by simp [stS] at h
  | _, md :: ms, [], _, _, h => by cases md <;> simp [stS] at h
  | o, md :: ms, d :: ds, 0, _, h => by cases md <;> simp [stS] at h ⊢ <;> exact h
  | o, md :: ms, d :: ds, j + 1, e, h => by
    have : (stS (o + 1) ms ds)[j]? = some (.val e) := by cases md <;> simpa [stS] using h
    simpa using stS_val this
theorem stS_arg : ∀ {o : Nat} {ms : List Md} {ds : List D} {j i : Nat}, (stS o ms ds)[j]? = some (.arg i) → i = o + j ∧ ms[j]? = some .m ∧ ∃ d, ds[j]? = some d
  | _, [], _, _, _, h => by simp [stS] at h
  | _, md :: ms, [], _, _, h => by cases md <;> simp [stS] at h
  | o, md :: ms, d :: ds, 0, _, h => by cases md <;> simp [stS] at h ⊢ <;> exact h.symm
  | o, md :: ms, d :: ds, j + 1, i, h => by
    have : (stS (o + 1) ms ds)[j]? = some (.arg i) := by cases md <;> simpa [stS] using h
    obtain ⟨a, b, c⟩ := stS_arg this
    exact ⟨by omega, by simpa using b, by simpa using c⟩
theorem stA_at : ∀ {ms : List Md} {ds : List D} {j : Nat} {d : D}, (stA ms ds)[j]? = some (some d) → ms[j]? = some .m ∧ ds[j]? = some d
  | [], _, _, _, h => by simp [stA] at h
  | md :: ms, [], _, _, h => by cases md <;> simp [stA] at h
  | md :: ms, d :: ds, 0, _, h => by cases md <;> simp [stA] at h ⊢ <;> exact h
  | md :: ms, d :: ds, j + 1, e, h => by
    have : (stA ms ds)[j]? = some (some e) := by cases md <;> simpa [stA] using h
    simpa using stA_at this
/-- the regions of the places at a def's start -/
noncomputable def S0 (ms : List Md) (Sa : Nat → List Addr) : Pi → List Addr
  | .inl _ => []
  | .inr j => if ms[j]? = some .m then Sa j else []
theorem lent_old {d : D} (h : d.lent = true) : d.old := by
  cases d with
  | lst f _ => cases f <;> simp [D.lent, D.allF, lentF, D.root] at *
  | dic f _ => cases f <;> simp [D.lent, D.allF, lentF, D.root] at *
  | dit f _ => cases f <;> simp [D.lent, D.allF, lentF, D.root] at *
  | din f _ => cases f <;> simp [D.lent, D.allF, lentF, D.root] at *
  | obj f _ _ => cases f <;> simp [D.lent, D.allF, lentF, D.root] at *
  | _ => simp [D.root]
theorem seen_old {d : D} (h : d.seen = true) : d.old := by
  cases d with
  | lst f _ => cases f <;> simp [D.seen, D.allF, seenF, D.root] at *
  | dic f _ => cases f <;> simp [D.seen, D.allF, seenF, D.root] at *
  | dit f _ => cases f <;> simp [D.seen, D.allF, seenF, D.root] at *
  | din f _ => cases f <;> simp [D.seen, D.allF, seenF, D.root] at *
  | obj f _ _ => cases f <;> simp [D.seen, D.allF, seenF, D.root] at *
  | _ => simp [D.root]
theorem kept_old {d : D} (h : d.kept = true) : d.old := by
  cases d with
  | lst f _ => cases f <;> simp [D.kept, D.allF, keepF, D.root] at *
  | dic f _ => cases f <;> simp [D.kept, D.allF, keepF, D.root] at *
  | dit f _ => cases f <;> simp [D.kept, D.allF, keepF, D.root] at *
  | din f _ => cases f <;> simp [D.kept, D.allF, keepF, D.root] at *
  | obj f _ _ => cases f <;> simp [D.kept, D.allF, keepF, D.root] at *
  | _ => simp [D.root]
theorem start_vrep {K : PySem.W.Frag} {G B H : Hp} {ms : List Md} {Sa : Nat → List Addr} {vs : List V} {ds : List D} {N : List Str} (c : CIn K G B H ms Sa vs ds) : VRep K G B B H vs (S0 ms Sa) (L2.start N vs) (startP N.length ms ds) where
  gh := c.gh
  bp := fun _ _ e => e
  ph := c.bh
  dis := c.dis
  len := by simp [startP, L2.start, stS_len c.dl, c.vl]
  alen := by simp [startP, stA_len c.dl, c.vl]
  slot := fun i d e => by
    have hl := stS_len (o := 0) c.dl
    simp only [startP] at e
    by_cases hi : i < ms.length
    · rw [List.getElem?_append_left (by rw [hl]; exact hi)] at e
      obtain ⟨md, h1, h2, h3⟩ := stS_val e
      have hv : vs[i]? = some (vs[i]'(by rw [c.vl]; exact hi)) := by simp [c.vl, hi]
      obtain ⟨q1, q2⟩ := c.at' i md _ d h1 hv h3
      have hT : Sa i = [] ∧ d.old := by
        cases md with
        | m => exact absurd rfl h2
        | r => exact ⟨q2.1, lent_old q2.2⟩
        | k => exact ⟨q2.1, kept_old q2.2⟩
        | s => exact ⟨q2.1, seen_old q2.2⟩
      rw [hT.1] at q1
      refine ⟨hT.2, _, ?_, q1⟩
      unfold L2.start
      rw [List.getElem?_append_left (by rw [List.length_map, c.vl]; exact hi), List.getElem?_map, hv]
      rfl
    · rw [List.getElem?_append_right (by rw [hl]; omega), List.getElem?_replicate] at e
      split at e <;> cases e
  arg := fun i j e => by
    have hl := stS_len (o := 0) c.dl
    simp only [startP] at e
    by_cases hi : i < ms.length
    · rw [List.getElem?_append_left (by rw [hl]; exact hi)] at e
      obtain ⟨h1, h2, d, h3⟩ := stS_arg e
      have hv : vs[i]? = some (vs[i]'(by rw [c.vl]; exact hi)) := by simp [c.vl, hi]
      have : j = i := by omega
      subst this
      refine ⟨_, ?_, hv⟩
      unfold L2.start
      rw [List.getElem?_append_left (by rw [List.length_map, c.vl]; exact hi), List.getElem?_map, hv]
      rfl
    · rw [List.getElem?_append_right (by rw [hl]; omega), List.getElem?_replicate] at e
      split at e <;> cases e
  ar := fun j d e => by
    obtain ⟨h1, h2⟩ := stA_at e
    have hi : j < ms.length := (List.getElem?_eq_some_iff.mp h1).1
    have hv : vs[j]? = some (vs[j]'(by rw [c.vl]; exact hi)) := by simp [c.vl, hi]
    obtain ⟨q1, q2⟩ := c.at' j .m _ d h1 hv h2
    exact ⟨q2.1, _, hv, by simp only [S0, h1, if_true]; exact q1⟩
  nd := fun i => by
    cases i with
    | inl i => exact .nil
    | inr j => simp only [S0]; split; exact c.rg.nd j; exact .nil
  dj := fun i j a h h1 h2 => by
    cases i with
    | inl i => cases h1
    | inr i =>
      cases j with
      | inl j => cases h2
      | inr j =>
        simp only [S0] at h1 h2
        split at h1
        · split at h2
          · exact c.rg.dj i j a (fun z => h (by rw [z])) h1 h2
          · cases h2
        · cases h1
  fr := fun i a h => by
    cases i with
    | inl i => cases h
    | inr j =>
      simp only [S0] at h
      split at h
      · exact c.rg.fr j a h
      · cases h
noncomputable def okA : List Md → List (Option D) → Bool
  | [], _ => true
  | .m :: ms, some d :: a => d.noBor && okA ms a
  | .m :: _, _ => false
  | _ :: ms, _ :: a => okA ms a
  | _ :: _, [] => false
theorem okA_at : ∀ {ms : List Md} {a : List (Option D)}, okA ms a = true → ∀ j : Nat, ms[j]? = some Md.m → ∃ d, a[j]? = some (some d) ∧ d.noBor = true
  | [], _, _, j, h => by simp at h
  | .m :: ms, some d :: a, e, j, h => by
    simp only [okA, Bool.and_eq_true] at e
    cases j with
    | zero => exact ⟨d, rfl, e.1⟩
    | succ j => simpa using okA_at e.2 j (by simpa using h)
  | .m :: ms, none :: a, e, j, h => by simp [okA] at e
  | .m :: ms, [], e, j, h => by simp [okA] at e
  | .r :: ms, _ :: a, e, j, h => by
    simp only [okA] at e
    cases j with
    | zero => simp at h
    | succ j => simpa using okA_at e j (by simpa using h)
  | .k :: ms, _ :: a, e, j, h => by
    simp only [okA] at e
    cases j with
    | zero => simp at h
    | succ j => simpa using okA_at e j (by simpa using h)
  | .s :: ms, _ :: a, e, j, h => by
    simp only [okA] at e
    cases j with
    | zero => simp at h
    | succ j => simpa using okA_at e j (by simpa using h)
  | .r :: ms, [], e, j, h => by simp [okA] at e
  | .s :: ms, [], e, j, h => by simp [okA] at e
  | .k :: ms, [], e, j, h => by simp [okA] at e
noncomputable def finF (ms : List Md) : OS → OF
  | .nx ρ => if okA ms ρ.a = true then .rt .non ρ.a else .no
  | .rt d ρ => if d.noBor = true ∧ okA ms ρ.a = true then .rt d ρ.a else .no
  | .ex x ρ => if x.plain = true ∧ okA ms ρ.a = true then .ex x ρ.a else .no
  | _ => .no
noncomputable def fnF (n : Nat) (ms : List Md) (body : FS) : Fn := fun ds => finF ms (body (startP n ms ds))
theorem vrep_out {K : PySem.W.Frag} {G B H : Hp} {ms : List Md} {vs : List V} {S : Pi → List Addr} {σ : L2.St} {ρ : Plc} (r : VRep K G B B H vs S σ ρ) (h : okA ms ρ.a = true) : COut K G B H ms (fun j => S (.inr j)) vs ρ.a :=
  ⟨fun j hj => by
    obtain ⟨d, h1, h2⟩ := okA_at h j hj
    obtain ⟨n, v, h3, h4⟩ := r.ar j d h1
    exact ⟨d, v, h1, h3, h4, n, h2⟩, fun j => r.nd _, fun i j a hij => r.dj _ _ a (fun z => hij (by simpa using z)), fun j a m => r.fr _ a m⟩
section
variable {P : Program} {w : World} {K : PySem.W.Frag} {mg : Str → Option Value} {base : Heap}
noncomputable abbrev BX (P : Program) (w : World) (K : PySem.W.Frag) (mg : Str → Option Value) (base : Heap) (N : List Str) (qual : Str) (st : Stmt) (f : Addr) (cdv : Value) (A : Around) (outer : List Env) (s : Shared) (H : Hp) (E : XK) : Cx := cxOf (L2.CX P w) P w K mg base N qual (defScope st) f cdv A outer s H E
noncomputable abbrev WB (E : XK) : WX := fun cls d _ H => E cls d H
theorem fn_okF {x qual : Str} {st : Stmt} {f : Addr} {fd : FuncData} {N ps : List Str} {k : Nat} {ms : List Md} {body : FS} (F : Fun K x qual st f fd) (S : FnScope N ps (defScope st)) (hl : ms.length = ps.length)
    (hbody : ∀ (cdv : Value) (A : Around) (outer : List Env) (s : Shared) (H : Hp) (E : XK), Room k (BX P w K mg base N qual st f cdv A outer s H E).A → VSs (BX P w K mg base N qual st f cdv A outer s H E) (WB E) (defBody st) body) :
    FnOk P w K mg base (L2.CX P w) (k + 1) f fd ps (liftF K ms (fnF N.length ms body)) := by
  refine F.okX S (fun vs H Q E h => ?_) (fun cdv A outer s H vs Q E hr h => ?_)
  · obtain ⟨_, _, _, _, c, _⟩ := h
    rw [c.vl, hl]
  · refine ⟨_, hbody cdv A outer s H E hr, ?_⟩
    obtain ⟨G, B, Sa, ds, c, q⟩ := h
    refine ⟨G, B, B, vs, S0 ms Sa, startP N.length ms ds, start_vrep c, ?_⟩
    unfold fnF at q
    cases e : body (startP N.length ms ds) with
    | no => rw [e] at q; exact q.elim
    | bk ρ => rw [e] at q; exact q.elim
    | ct ρ => rw [e] at q; exact q.elim
    | nx ρ =>
      rw [e] at q
      simp only [finF] at q
      intro G' H' S' σ' s' r'
      split at q
      · rename_i d os heq
        split at heq
        · rename_i hk
          cases heq
          exact q G' H' _ .non [] ⟨s', r'.gh, r'.ph, r'.dis⟩ (vrep_out r' hk) .non (by simp [D.root]) rfl .nil fun a m => by cases m
        · cases heq
      · rename_i heq; split at heq <;> cases heq
      · exact q.elim
    | rt d ρ =>
      rw [e] at q
      simp only [finF] at q
      intro G' H' S' σ' v T s' r' hd n t
      split at q
      · rename_i d' os heq
        split at heq
        · rename_i hk
          cases heq
          exact q G' H' _ v T ⟨s', r'.gh, r'.ph, r'.dis⟩ (vrep_out r' hk.2) hd n hk.1 t.1 fun a m => ⟨fun j => (t.2 a m).1 _, (t.2 a m).2⟩
        · cases heq
      · rename_i heq; split at heq <;> cases heq
      · exact q.elim
    | ex x ρ =>
      rw [e] at q
      simp only [finF] at q
      intro G' H' S' σ' cls dx s' r' er
      split at q
      · rename_i heq; split at heq <;> cases heq
      · rename_i d' os heq
        split at heq
        · rename_i hk
          cases heq
          exact q G' H' _ cls dx ⟨s', r'.gh, r'.ph, r'.dis⟩ (vrep_out r' hk.2) er hk.1
        · cases heq
      · exact q.elim
/-- a def of the module's top -/
noncomputable def TopFn (K : PySem.W.Frag) (mg : Str → Option Value) (x : Str) (st : Stmt) (ps : List Str) : Prop := ∃ (f : Addr) (fd : FuncData), Fun K x x st f fd ∧ mg x = some (.ref f) ∧ Binds K fd ps []
/-- a method of the class at C -/
noncomputable def TopMt (K : PySem.W.Frag) (C : Addr) (m qual : Str) (st : Stmt) (ps : List Str) : Prop := ∃ (f : Addr) (fd : FuncData), Fun K m qual st f fd ∧ Meth K C m f ∧ Binds K fd ps []
structure VFn (P : Program) (w : World) (K : PySem.W.Frag) (mg : Str → Option Value) (base : Heap) (x : Str) (k : Nat) (ms : List Md) (F : Fn) : Prop where
  ex : ∃ (f : Addr) (fd : FuncData) (ps : List Str), FnOk P w K mg base (L2.CX P w) k f fd ps (liftF K ms F) ∧ mg x = some (.ref f) ∧ PySem.W.keepIn K (.ref f) = true ∧ Binds K fd ps []
structure VMt (P : Program) (w : World) (K : PySem.W.Frag) (mg : Str → Option Value) (base : Heap) (C : Addr) (m : Str) (k : Nat) (ms : List Md) (F : Fn) : Prop where
  ex : ∃ (f : Addr) (fd : FuncData) (ps : List Str), FnOk P w K mg base (L2.CX P w) k f fd ps (liftF K ms F) ∧ Meth K C m f ∧ Binds K fd ps []
theorem vfn {x : Str} {st : Stmt} {N ps : List Str} {k : Nat} {ms : List Md} {body : FS} (T : TopFn K mg x st ps) (S : FnScope N ps (defScope st)) (hl : ms.length = ps.length)
    (hbody : ∀ (f : Addr) (cdv : Value) (A : Around) (outer : List Env) (s : Shared) (H : Hp) (E : XK), Room k (BX P w K mg base N x st f cdv A outer s H E).A → VSs (BX P w K mg base N x st f cdv A outer s H E) (WB E) (defBody st) body) : VFn P w K mg base x (k + 1) ms (fnF N.length ms body) := by
  obtain ⟨f, fd, F, hm, hb⟩ := T
  exact ⟨f, fd, ps, fn_okF F S hl (hbody f), hm, F.kp, hb⟩
theorem vmt {C : Addr} {m qual : Str} {st : Stmt} {N ps : List Str} {k : Nat} {ms : List Md} {body : FS} (T : TopMt K C m qual st ps) (S : FnScope N ps (defScope st)) (hl : ms.length = ps.length)
    (hbody : ∀ (f : Addr) (cdv : Value) (A : Around) (outer : List Env) (s : Shared) (H : Hp) (E : XK), Room k (BX P w K mg base N qual st f cdv A outer s H E).A → VSs (BX P w K mg base N qual st f cdv A outer s H E) (WB E) (defBody st) body) : VMt P w K mg base C m (k + 1) ms (fnF N.length ms body) := by
  obtain ⟨f, fd, F, hm, hb⟩ := T
  exact ⟨f, fd, ps, fn_okF F S hl (hbody f), hm, hb⟩
end
end VL

/-! VLn: places by name, lending. -/
namespace VL
open PySem PySem.Spec PyProof.Rows L2
variable [LamT]

/-- a place -/
inductive Lc where
  | s (i : Nat) | a (j : Nat)
  deriving DecidableEq
noncomputable def Lc.pi : Lc → Pi
  | .s i => .inl i
  | .a j => .inr j
noncomputable def Plc.lc (ρ : Plc) (i : Nat) : Option Lc := match ρ.s[i]? with
  | some (.val _) => some (.s i)
  | some (.arg j) => some (.a j)
  | _ => none
noncomputable def Plc.get (ρ : Plc) : Lc → Option D
  | .s i => match ρ.s[i]? with
    | some (.val d) => some d
    | _ => none
  | .a j => (ρ.a[j]?).bind id
noncomputable def Plc.rm (ρ : Plc) : Lc → Plc
  | .s i => ρ.setS i .no
  | .a j => ρ.setA j none
noncomputable def Plc.put (ρ : Plc) : Lc → D → Plc
  | .s i, d => ρ.setS i (.val d)
  | .a j, d => ρ.setA j (some d)
/-- the value at a place -/
noncomputable def Lc.At (σ : L2.St) (As : List V) : Lc → V → Prop
  | .s i, v => σ[i]? = some (some v)
  | .a j, v => As[j]? = some v
theorem Lc.at_eq {σ : L2.St} {As : List V} {l : Lc} {v w : V} (h : l.At σ As v) (h' : l.At σ As w) : v = w := by
  cases l with
  | s i => simp only [Lc.At] at h h'; rw [h] at h'; cases h'; rfl
  | a j => simp only [Lc.At] at h h'; rw [h] at h'; cases h'; rfl
section
variable {K : PySem.W.Frag} {G B Φ H G' H' : Hp} {As : List V} {S : Pi → List Addr} {σ : L2.St} {ρ : Plc}
/-- a name's value is its place's -/
theorem VRep.lc_at (r : VRep K G B Φ H As S σ ρ) {i : Nat} {l : Lc} (h : ρ.lc i = some l) : ∃ v, σ[i]? = some (some v) ∧ l.At σ As v := by
  unfold Plc.lc at h
  cases e : ρ.s[i]? with
  | none => rw [e] at h; cases h
  | some x =>
    rw [e] at h
    cases x with
    | no => cases h
    | val d => cases h; obtain ⟨_, v, h1, _⟩ := r.slot i d e; exact ⟨v, h1, h1⟩
    | arg j => cases h; obtain ⟨v, h1, h2⟩ := r.arg i j e; exact ⟨v, h1, h2⟩
theorem VRep.dropA {j : Nat} (r : VRep K G B Φ H As S σ ρ) : VRep K G B Φ H As (VL.setS S (.inr j) []) σ (ρ.setA j none) where
  gh := r.gh
  bp := r.bp
  ph := r.ph
  dis := r.dis
  len := r.len
  alen := by simp [Plc.setA, r.alen]
  slot := fun i d q => by
    obtain ⟨n, v, h1, h2⟩ := r.slot i d q
    exact ⟨n, v, h1, by rw [setS_ne (by simp)]; exact h2⟩
  arg := r.arg
  ar := fun k e q => by
    simp only [Plc.setA, List.getElem?_set] at q
    by_cases hij : j = k
    · subst hij
      rw [if_pos rfl] at q
      split at q <;> cases q
    · rw [if_neg hij] at q
      obtain ⟨n', w, h1, h2⟩ := r.ar k e q
      exact ⟨n', w, h1, by rw [setS_ne (by simpa using Ne.symm hij)]; exact h2⟩
  nd := fun k => by
    by_cases h : k = .inr j
    · subst h; rw [setS_same]; exact .nil
    · rw [setS_ne h]; exact r.nd k
  dj := fun i k a hne hj hk => by
    by_cases h1 : i = .inr j
    · subst h1; rw [setS_same] at hj; cases hj
    · rw [setS_ne h1] at hj
      by_cases h2 : k = .inr j
      · subst h2; rw [setS_same] at hk; cases hk
      · rw [setS_ne h2] at hk
        exact r.dj i k a hne hj hk
  fr := fun k a m => by
    by_cases h : k = .inr j
    · subst h; rw [setS_same] at m; cases m
    · rw [setS_ne h] at m; exact r.fr k a m
theorem VRep.setA {T : List Addr} {j : Nat} {v : V} {d : D} (r : VRep K G B Φ H As S σ ρ) (hv : As[j]? = some v) (hd : Dat K G B H T v d) (n : d.old) (t : TOk T S G Φ H) : VRep K G B Φ H As (VL.setS S (.inr j) T) σ (ρ.setA j (some d)) where
  gh := r.gh
  bp := r.bp
  ph := r.ph
  dis := r.dis
  len := r.len
  alen := by simp [Plc.setA, r.alen]
  slot := fun i d q => by
    obtain ⟨n, v, h1, h2⟩ := r.slot i d q
    exact ⟨n, v, h1, by rw [setS_ne (by simp)]; exact h2⟩
  arg := r.arg
  ar := fun k e q => by
    simp only [Plc.setA, List.getElem?_set] at q
    by_cases hij : j = k
    · subst hij
      rw [if_pos rfl] at q
      split at q
      · cases q
        exact ⟨n, v, hv, by rw [setS_same]; exact hd⟩
      · cases q
    · rw [if_neg hij] at q
      obtain ⟨n', w, h1, h2⟩ := r.ar k e q
      exact ⟨n', w, h1, by rw [setS_ne (by simpa using Ne.symm hij)]; exact h2⟩
  nd := fun k => by
    by_cases h : k = .inr j
    · subst h; rw [setS_same]; exact t.1
    · rw [setS_ne h]; exact r.nd k
  dj := fun i k a hne hj hk => by
    by_cases h1 : i = .inr j
    · subst h1
      rw [setS_same] at hj
      rw [setS_ne (Ne.symm hne)] at hk
      exact (t.2 a hj).1 k hk
    · rw [setS_ne h1] at hj
      by_cases h2 : k = .inr j
      · subst h2
        rw [setS_same] at hk
        exact (t.2 a hk).1 i hj
      · rw [setS_ne h2] at hk
        exact r.dj i k a hne hj hk
  fr := fun k a m => by
    by_cases h : k = .inr j
    · subst h; rw [setS_same] at m; exact (t.2 a m).2
    · rw [setS_ne h] at m; exact r.fr k a m
/-- what a place holds leaves it -/
theorem VRep.takeL {l : Lc} {d : D} (r : VRep K G B Φ H As S σ ρ) (h : ρ.get l = some d) : ∃ v, l.At σ As v ∧ d.old ∧ Dat K G B H (S l.pi) v d ∧ VRep K G B Φ H As (VL.setS S l.pi []) σ (ρ.rm l) ∧ TOk (S l.pi) (VL.setS S l.pi []) G Φ H := by
  cases l with
  | s i =>
    simp only [Plc.get] at h
    cases e : ρ.s[i]? with
    | none => rw [e] at h; cases h
    | some x =>
      rw [e] at h
      cases x with
      | no => cases h
      | arg j => cases h
      | val d' =>
        cases h
        obtain ⟨v, h1, h2, h3, h4, h5⟩ := r.take e
        exact ⟨v, h1, h2, h3, h4, h5⟩
  | a j =>
    simp only [Plc.get] at h
    have e : ρ.a[j]? = some (some d) := by
      cases e : ρ.a[j]? with
      | none => rw [e] at h; cases h
      | some x => rw [e] at h; cases x with
        | none => cases h
        | some y => cases h; rfl
    obtain ⟨n, v, h1, h2⟩ := r.ar j d e
    refine ⟨v, h1, n, h2, r.dropA, r.nd _, fun a m => ⟨fun k q => ?_, r.fr _ a m⟩⟩
    by_cases hj : k = .inr j
    · subst hj; rw [show Lc.pi (.a j) = .inr j from rfl, setS_same] at q; cases q
    · rw [show Lc.pi (.a j) = .inr j from rfl, setS_ne hj] at q
      exact r.dj _ _ a (Ne.symm hj) m q
theorem VRep.putL {l : Lc} {T : List Addr} {v : V} {d : D} (r : VRep K G B Φ H As S σ ρ) (hv : l.At σ As v) (hd : Dat K G B H T v d) (n : d.old) (t : TOk T S G Φ H) : VRep K G B Φ H As (VL.setS S l.pi T) σ (ρ.put l d) := by
  cases l with
  | s i =>
    have := r.set (i := i) hd n t
    rw [set_self hv] at this
    exact this
  | a j => exact r.setA hv hd n t
end

/-! ### lending -/
mutual
theorem Dat.anyB {K : PySem.W.Frag} {G B B' H : Hp} : ∀ {S : List Addr} {v : V} {d : D}, Dat K G B H S v d → d.noBor = true → Dat K G B' H S v d
  | _, _, _, .non, _ => .non
  | _, _, _, .bl b, _ => .bl b
  | _, _, _, .int i, _ => .int i
  | _, _, _, .str x, _ => .str x
  | _, _, _, .ty n, _ => .ty n
  | _, _, _, .ref a, _ => .ref a
  | _, _, _, .xc h hf, _ => .xc h hf
  | _, _, _, .tup h hs, e => .tup h (Dats.anyB hs (by simpa [D.noBor, D.allF] using e))
  | _, _, _, .tuk h hs, e => .tuk h (Dats.anyB hs (by simpa [D.noBor, D.allF] using e))
  | _, _, _, .clo hs, e => .clo (Dats.anyB hs (by simpa [D.noBor, D.allF] using e))
  | _, _, _, .lst (f := f) h hs, e => by
    simp only [D.noBor, D.allF, Bool.and_eq_true] at e
    refine .lst ?_ (Dats.anyB hs e.2)
    cases f <;> first | exact h | cases e.1
  | _, _, _, .lok h hs, e => by simp [D.noBor, D.allF, borF] at e
  | _, _, _, .dic (f := f) h hs, e => by
    simp only [D.noBor, D.allF, Bool.and_eq_true] at e
    refine .dic ?_ (DatM.anyB hs e.2)
    cases f <;> first | exact h | cases e.1
  | _, _, _, .dit (f := f) h hs, e => by
    simp only [D.noBor, D.allF, Bool.and_eq_true] at e
    refine .dit ?_ (DatM.anyB hs e.2)
    cases f <;> first | exact h | cases e.1
  | _, _, _, .din (f := f) hw h hk eq, e => by
    simp only [D.noBor, D.allF] at e
    refine .din hw ?_ hk eq
    cases f <;> first | exact h | cases e
  | _, _, _, .obj (f := f) (dx := dx) h hs, e => by
    simp only [D.noBor, D.allF, Bool.and_eq_true] at e
    refine .obj (dx := dx) ?_ (DatM.anyB hs e.2)
    cases f <;> first | exact h | cases e.1
theorem Dats.anyB {K : PySem.W.Frag} {G B B' H : Hp} : ∀ {S : List Addr} {v : List V} {d : List D}, Dats K G B H S v d → D.allFL borF d = true → Dats K G B' H S v d
  | _, _, _, .nil, _ => .nil
  | _, _, _, .cons n h t, e => by
    rw [D.allFL, Bool.and_eq_true] at e
    exact .cons n (Dat.anyB h e.1) (Dats.anyB t e.2)
theorem DatM.anyB {K : PySem.W.Frag} {G B B' H : Hp} : ∀ {S : List Addr} {v : List (Kd × V)} {d : List (Kd × D)}, DatM K G B H S v d → D.allFK borF d = true → DatM K G B' H S v d
  | _, _, _, .nil, _ => .nil
  | _, _, _, .cons n h t, e => by
    rw [D.allFK, Bool.and_eq_true] at e
    exact .cons n (Dat.anyB h e.1) (DatM.anyB t e.2)
end
open Classical in
/-- what may be lent: what is neither settled nor at T -/
noncomputable def less (G : Hp) (T : Addr → Prop) (H : Hp) : Hp := fun a => if T a then none else match G a with
  | some _ => none
  | none => H a
theorem less_at {G H : Hp} {T : Addr → Prop} {a : Addr} {o : HO} (h : H a = some o) (g : G a = none) (t : ¬ T a) : less G T H a = some o := by
  unfold less
  rw [if_neg t, g]
  exact h
theorem less_of {G H : Hp} {T : Addr → Prop} {a : Addr} {o : HO} (h : less G T H a = some o) : H a = some o ∧ G a = none ∧ ¬ T a := by
  unfold less at h
  by_cases t : T a
  · rw [if_pos t] at h; cases h
  · rw [if_neg t] at h
    cases g : G a with
    | some u => rw [g] at h; cases h
    | none => rw [g] at h; exact ⟨h, rfl, t⟩
theorem less_or {G H : Hp} (gh : Sub G H) {T : Addr → Prop} {a : Addr} {o : HO} (h : H a = some o) (t : ¬ T a) (nt : NT o := by first | assumption | trivial) : less G T H a = some o ∨ G a = some o := by
  cases g : G a with
  | none => exact .inl (less_at h g t)
  | some u => exact .inr (by rw [gh.n.b h nt g])
theorem view_old (d : D) : d.view.old := root_mapF (fun f => by cases f <;> simp [viewF]) d
/-- a tree as it is lent -/
theorem dat_view {K : PySem.W.Frag} {G B H G' H' : Hp} {T : Addr → Prop} {S : List Addr} {v : V} {d : D} (g : Same G G') (gh : Sub G' H) (bh : SmN B H) (hS : ∀ a ∈ S, ¬ T a) (hB : ∀ a o, B a = some o → ¬ T a) (hG : ∀ a o, G a = some o → ¬ T a) (hd : Dat K G B H S v d) : Dat K G' (less G' T H) H' [] v d.view := by
  refine Dat.turn g (fun p vs q => ?_) rfl (fun f => by cases f <;> simp [viewF]) (fun f p o nt n m => ?_) hd
  · rcases q with (q | q) | q
    · rcases q with q | ⟨ob, q⟩
      · rcases less_or gh (bh _ _ q trivial) (hB _ _ q) with z | z
        · exact .inl (.inl (.inl z))
        · exact .inr (.inl (.inl z))
      · rcases less_or gh (bh _ _ q trivial) (hB _ _ q) with z | z
        · exact .inl (.inl (.inr ⟨ob, z⟩))
        · exact .inr (.inl (.inr ⟨ob, z⟩))
    · exact .inl (.inr q)
    · exact .inr (g.seq q)
  · cases f with
    | own => exact ⟨less_or gh n (hS p (m p (by simp [Fl.ad]))), rfl⟩
    | new => exact ⟨less_or gh n (hS p (m p (by simp [Fl.ad]))), rfl⟩
    | frz => exact ⟨.inr (g p o n), rfl⟩
    | bor => exact ⟨n.elim (fun n => less_or gh (bh p o n nt) (hB p o n)) (fun n => .inr (g p o n)), rfl⟩
    | loc => exact n.elim
noncomputable def Sl.view : Sl → Sl
  | .val d => .val d.view
  | x => x
noncomputable def Plc.view (ρ : Plc) : Plc := ⟨ρ.s.map Sl.view, ρ.a.map (Option.map D.view)⟩
/-- all places lent -/
theorem VRep.lend {K : PySem.W.Frag} {G B Φ H : Hp} {As : List V} {S : Pi → List Addr} {σ : L2.St} {ρ : Plc} {T : Addr → Prop} (r : VRep K G B Φ H As S σ ρ) (hS : ∀ i, ∀ a ∈ S i, ¬ T a) (hP : ∀ a, T a → Φ a = none ∧ G a = none) : SOk K G (less G T H) H As σ ρ.view := by
  have hB : ∀ a o, B a = some o → ¬ T a := fun a o e t => by
    have := r.bp a o e
    rw [(hP a t).1] at this; cases this
  have hG : ∀ a o, G a = some o → ¬ T a := fun a o e t => by rw [(hP a t).2] at e; cases e
  refine ⟨r.gh, .of fun a o e => (less_of e).1, by simp [Plc.view, r.len], fun i d e => ?_, fun i j e => ?_, fun j d e => ?_⟩
  · simp only [Plc.view, List.getElem?_map] at e
    cases e2 : ρ.s[i]? with
    | none => rw [e2] at e; cases e
    | some x =>
      rw [e2] at e
      cases x with
      | no => cases e
      | arg j => cases e
      | val d' =>
        cases e
        obtain ⟨n, v, h1, h2⟩ := r.slot i d' e2
        exact ⟨view_old _, v, h1, [], dat_view (fun _ _ e => e) r.gh (bh_of r) (hS _) hB hG h2⟩
  · simp only [Plc.view, List.getElem?_map] at e
    cases e2 : ρ.s[i]? with
    | none => rw [e2] at e; cases e
    | some x =>
      rw [e2] at e
      cases x with
      | no => cases e
      | val d => cases e
      | arg k => cases e; exact r.arg i j e2
  · simp only [Plc.view, List.getElem?_map] at e
    cases e2 : ρ.a[j]? with
    | none => rw [e2] at e; cases e
    | some x =>
      rw [e2] at e
      cases x with
      | none => cases e
      | some d' =>
        cases e
        obtain ⟨n, v, h1, h2⟩ := r.ar j d' e2
        exact ⟨view_old _, v, h1, [], dat_view (fun _ _ e => e) r.gh (bh_of r) (hS _) hB hG h2⟩
theorem kept_noOwn {d : D} (h : d.kept = true) : d.noOwn = true := allF_mono (fun f e => by cases f <;> simp [keepF, ownF] at *) d h
theorem kept_noBor {d : D} (h : d.kept = true) : d.noBor = true := allF_mono (fun f e => by cases f <;> simp [keepF, borF] at *) d h
mutual
theorem view_lent : ∀ d : D, d.view.lent = true
  | .tup xs => by simp only [D.view, D.mapF, D.lent, D.allF]; exact viewL_lent xs
  | .tuk xs => by simp only [D.view, D.mapF, D.lent, D.allF]; exact viewL_lent xs
  | .clo _ _ xs => by simp only [D.view, D.mapF, D.lent, D.allF]; exact viewL_lent xs
  | .lst f xs => by
    simp only [D.view, D.mapF, D.lent, D.allF, Bool.and_eq_true]
    exact ⟨by cases f <;> rfl, viewL_lent xs⟩
  | .dic f xs => by
    simp only [D.view, D.mapF, D.lent, D.allF, Bool.and_eq_true]
    exact ⟨by cases f <;> rfl, viewK_lent xs⟩
  | .dit f xs => by
    simp only [D.view, D.mapF, D.lent, D.allF, Bool.and_eq_true]
    exact ⟨by cases f <;> rfl, viewK_lent xs⟩
  | .din f xs => by
    simp only [D.view, D.mapF, D.lent, D.allF]
    cases f <;> rfl
  | .obj f C xs => by
    simp only [D.view, D.mapF, D.lent, D.allF, Bool.and_eq_true]
    exact ⟨by cases f <;> rfl, viewK_lent xs⟩
  | .non => rfl
  | .bl _ => rfl
  | .int _ => rfl
  | .str _ => rfl
  | .ty _ => rfl
  | .ref _ => rfl
  | .xc _ _ _ => rfl
theorem viewL_lent : ∀ ds : List D, D.allFL lentF (D.mapFL viewF ds) = true
  | [] => rfl
  | d :: ds => by rw [D.mapFL, D.allFL, viewL_lent ds]; exact (Bool.and_true _).trans (view_lent d)
theorem viewK_lent : ∀ ds : List (Kd × D), D.allFK lentF (D.mapFK viewF ds) = true
  | [] => rfl
  | (k, d) :: ds => by rw [D.mapFK, D.allFK, viewK_lent ds]; exact (Bool.and_true _).trans (view_lent d)
end
theorem exn_plain {K : PySem.W.Frag} {G B B' H : Hp} {x : Exn} {cls : Value} {dx : Option Addr} (h : ExnR K G B H x cls dx) (p : x.plain = true) : ExnR K G B' H x cls dx := by
  obtain ⟨h1, h2⟩ := h
  refine ⟨h1, ?_⟩
  unfold Exn.plain at p
  cases e : x.flds with
  | none => rw [e] at h2; exact h2
  | some fs =>
    rw [e] at h2 p
    exact h2
end VL

/-! VLo: quiet calls. -/
namespace VL
open PySem PySem.Spec PyProof.Rows L2
variable [LamT]

/-- what a call hands back, where nothing else is owned: its root is new, what hangs on it is settled -/
noncomputable def D.q : D → D
  | .lst .own xs => .lst .new (D.mapFL fzF xs)
  | .dic .own xs => .dic .new (D.mapFK fzF xs)
  | .dit .own xs => .dit .new (D.mapFK fzF xs)
  | .din .own xs => .din .new xs
  | .obj .own C xs => .obj .new C (D.mapFK fzF xs)
  | d => d.fz
section
variable {K : PySem.W.Frag} {G B H G2 H' G3 H3 : Hp} {Tm : Addr → Prop}
theorem less_ex {G H : Hp} {T : Addr → Prop} {a : Addr} {o : HO} (h : H a = some o) (t : ¬ T a) : less G T H a = some o ∨ ∃ w, G a = some w := by
  cases g : G a with
  | none => exact .inl (less_at h g t)
  | some w => exact .inr ⟨w, rfl⟩
theorem left_h (e : Ext G H G2 H') (hT : ∀ a, Tm a → H a = none) (L : Left G2 (less G2 Tm H') G3 H3) : SmN H H3 := ⟨fun a o h n => by
  have h' := e.h a o h n
  have nt : ¬ Tm a := fun t => by rw [hT a t] at h; cases h
  rcases less_or e.gh h' nt with z | z
  · exact L.bh a o z n
  · exact L.gh a o (L.g a o z) n, fun a ps h => by
  obtain ⟨qs, h'⟩ := e.h.y a ps h
  have nt : ¬ Tm a := fun t => by rw [hT a t] at h; cases h
  rcases less_ex (G := G2) h' nt with z | ⟨w, z⟩
  · exact L.bh.y a qs z
  · rcases nt_or w with m | ⟨rs, rfl⟩
    · rw [e.gh a w z m] at h'
      cases h'
      exact m.elim
    · exact L.gh.n.y a rs (L.g a _ z)⟩
theorem left_new (e : Ext G H G2 H') (hT : ∀ a, Tm a → H a = none) (L : Left G2 (less G2 Tm H') G3 H3) {a : Addr} {o : HO} (h : G3 a = some o) : G a = some o ∨ H a = none := by
  cases z : H a with
  | none => exact .inr rfl
  | some u =>
    obtain ⟨u', h'⟩ := e.h.ex z
    have nt : ¬ Tm a := fun t => by rw [hT a t] at z; cases z
    rcases less_ex (G := G2) h' nt with y | ⟨w, y⟩
    · rw [L.dis a u' y] at h; cases h
    · have v := L.g a w y
      rw [h] at v
      cases v
      rcases e.new a o y with x | x
      · exact .inl x
      · rw [x] at z; cases z
theorem left_out (e : Ext G H G2 H') (hT : ∀ a, Tm a → H a = none) (L : Left G2 (less G2 Tm H') G3 H3) {a : Addr} (g : G3 a = none) (b : less G2 Tm H' a = none) : H a = none := by
  cases z : H a with
  | none => rfl
  | some u =>
    obtain ⟨u', h'⟩ := e.h.ex z
    have nt : ¬ Tm a := fun t => by rw [hT a t] at z; cases z
    rcases less_ex (G := G2) h' nt with y | ⟨w, y⟩
    · rw [b] at y; cases y
    · rw [L.g a w y] at g; cases g
theorem left_ext (e : Ext G H G2 H') (hT : ∀ a, Tm a → H a = none) (L : Left G2 (less G2 Tm H') G3 H3) {U : List Addr} (hU : ∀ a ∈ U, G3 a = none ∧ less G2 Tm H' a = none) : Ext G H (more G3 H3 U) H3 :=
  ⟨left_h e hT L, (e.g.trans L.g).trans (more_same fun a m => (hU a m).1), fun a o h => by
    unfold more at h
    split at h
    · rename_i m; exact .inr (left_out e hT L (hU a m).1 (hU a m).2)
    · exact left_new e hT L h, L.gh.more U⟩
theorem more_nil {G H : Hp} : more G H [] = G := by funext a; simp [more]
theorem turn_fz {G B H : Hp} {H' : Hp} {T : List Addr} (h : ∀ a ∈ T, G a = none) : Turn G B H (more G H T) B H' T fzF := fun f p o nt n m => by
  cases f with
  | own => exact ⟨by show more G H T p = some o; rw [more_at (m p (by simp [Fl.ad]))]; exact n, rfl⟩
  | new => exact ⟨by show more G H T p = some o; rw [more_at (m p (by simp [Fl.ad]))]; exact n, rfl⟩
  | frz => exact ⟨more_same h p o n, rfl⟩
  | bor => exact ⟨n.imp id (more_same h p o), rfl⟩
  | loc => exact n.elim
theorem fzF_new : ∀ f, fzF f ≠ .new := fun f => by cases f <;> simp [fzF]
theorem q_res {T : List Addr} {v : V} {d : D} (e : Ext G H G2 H') (hT : ∀ a, Tm a → H a = none) (L : Left G2 (less G2 Tm H') G3 H3) (hd : Dat K G3 (less G2 Tm H') H3 T v d) (nb : d.noBor = true) (t1 : T.Nodup) (t2 : ∀ a ∈ T, G3 a = none ∧ less G2 Tm H' a = none ∧ ∃ o, H3 a = some o ∧ HO.free o) :
    ∃ G4, Ext G H G4 H3 ∧ Dt K G4 B H3 v d.q ∧ Fresh H G4 v d.q := by
  have hB : Dat K G3 B H3 T v d := hd.anyB nb
  have gen : d.q = d.fz → ∃ G4, Ext G H G4 H3 ∧ Dt K G4 B H3 v d.q ∧ Fresh H G4 v d.q := fun z => by
    refine ⟨_, left_ext e hT L fun a m => ⟨(t2 a m).1, (t2 a m).2.1⟩, ⟨[], ?_⟩, ?_⟩
    · rw [z]; exact dat_fz hB fun a m => (t2 a m).1
    · rw [z]; exact Fresh.of (fz_old d)
  have own : ∀ {p : Addr} {U : List Addr}, T = p :: U → (∀ a ∈ U, G3 a = none ∧ less G2 Tm H' a = none) ∧ H p = none ∧ more G3 H3 U p = none ∧ ∃ o, H3 p = some o ∧ HO.free o := fun {p U} z => by
    subst z
    obtain ⟨a1, a2, a3⟩ := t2 p (by simp)
    refine ⟨fun a m => ⟨(t2 a (List.mem_cons_of_mem _ m)).1, (t2 a (List.mem_cons_of_mem _ m)).2.1⟩, left_out e hT L a1 a2, ?_, a3⟩
    unfold more
    rw [if_neg (List.nodup_cons.mp t1).1]
    exact a1
  have unl : ∀ {p : Addr} {ho : HO}, (∃ o, H3 p = some o ∧ HO.free o) → NdR G3 B H3 .own p ho → H3 p = some ho := fun {p ho} ⟨o, h1, h2⟩ n => by
    rcases n with n | ⟨_, ob, n⟩
    · exact n
    · rw [show H3 p = some (.frz ob ho) from n] at h1
      cases h1
      exact absurd rfl (h2.f ob ho)
  cases d with
  | lst f xs =>
    cases f with
    | own =>
      cases hB with
      | lst n hs =>
        obtain ⟨o1, o2, o3, _⟩ := own rfl
        exact ⟨_, left_ext e hT L o1, ⟨_, .lst (f := .new) n (Dats.turn (more_same fun a m => (o1 a m).1) (fun p vs q => q.imp id (more_same fun a m => (o1 a m).1).seq) rfl fzF_new (turn_fz fun a m => (o1 a m).1) hs)⟩, fun _ => ⟨_, rfl, o2, o3⟩⟩
    | _ => exact gen rfl
  | dic f xs =>
    cases f with
    | own =>
      cases hB with
      | dic n hs =>
        obtain ⟨o1, o2, o3, o4⟩ := own rfl
        exact ⟨_, left_ext e hT L o1, ⟨_, .dic (f := .new) (.inl (unl o4 n)) (DatM.turn (more_same fun a m => (o1 a m).1) (fun p vs q => q.imp id (more_same fun a m => (o1 a m).1).seq) rfl fzF_new (turn_fz fun a m => (o1 a m).1) hs)⟩, fun _ => ⟨_, rfl, o2, o3⟩⟩
    | _ => exact gen rfl
  | dit f xs =>
    cases f with
    | own =>
      cases hB with
      | dit n hs =>
        obtain ⟨o1, o2, o3, o4⟩ := own rfl
        exact ⟨_, left_ext e hT L o1, ⟨_, .dit (f := .new) (.inl (unl o4 n)) (DatM.turn (more_same fun a m => (o1 a m).1) (fun p vs q => q.imp id (more_same fun a m => (o1 a m).1).seq) rfl fzF_new (turn_fz fun a m => (o1 a m).1) hs)⟩, fun _ => ⟨_, rfl, o2, o3⟩⟩
    | _ => exact gen rfl
  | din f xs =>
    cases f with
    | own =>
      cases hB with
      | din hw n hk eq =>
        obtain ⟨o1, o2, o3, _⟩ := own rfl
        exact ⟨_, left_ext e hT L o1, ⟨_, .din (f := .new) hw n (fun x m => (hk x m).mono (more_same fun a m => (o1 a m).1)) eq⟩, fun _ => ⟨_, rfl, o2, o3⟩⟩
    | _ => exact gen rfl
  | obj f C xs =>
    cases f with
    | own =>
      cases hB with
      | obj n hs =>
        obtain ⟨o1, o2, o3, _⟩ := own rfl
        exact ⟨_, left_ext e hT L o1, ⟨_, .obj (f := .new) n (DatM.turn (more_same fun a m => (o1 a m).1) (fun p vs q => q.imp id (more_same fun a m => (o1 a m).1).seq) rfl fzF_new (turn_fz fun a m => (o1 a m).1) hs)⟩, fun _ => ⟨_, rfl, o2, o3⟩⟩
    | _ => exact gen rfl
  | _ => exact gen rfl
end

/-! ### arguments of a quiet call -/
/-- as it is lent, what is settled seen so -/
noncomputable def seeF : Fl → Fl
  | .own => .bor
  | .new => .bor
  | f => f
noncomputable abbrev D.see (d : D) : D := d.mapF seeF
mutual
theorem see_seen : ∀ d : D, d.see.seen = true
  | .tup xs => by rw [D.see, D.mapF, D.seen, D.allF]; exact seeL_seen xs
  | .tuk xs => by rw [D.see, D.mapF, D.seen, D.allF]; exact seeL_seen xs
  | .clo _ _ xs => by rw [D.see, D.mapF, D.seen, D.allF]; exact seeL_seen xs
  | .lst f xs => by rw [D.see, D.mapF, D.seen, D.allF, seeL_seen xs]; cases f <;> rfl
  | .dic f xs => by rw [D.see, D.mapF, D.seen, D.allF, seeK_seen xs]; cases f <;> rfl
  | .dit f xs => by rw [D.see, D.mapF, D.seen, D.allF, seeK_seen xs]; cases f <;> rfl
  | .din f xs => by rw [D.see, D.mapF, D.seen, D.allF]; cases f <;> rfl
  | .obj f C xs => by rw [D.see, D.mapF, D.seen, D.allF, seeK_seen xs]; cases f <;> rfl
  | .non => rfl
  | .bl _ => rfl
  | .int _ => rfl
  | .str _ => rfl
  | .ty _ => rfl
  | .ref _ => rfl
  | .xc _ _ _ => rfl
theorem seeL_seen : ∀ ds : List D, D.allFL seenF (D.mapFL seeF ds) = true
  | [] => rfl
  | d :: ds => by rw [D.mapFL, D.allFL, seeL_seen ds]; exact (Bool.and_true _).trans (see_seen d)
theorem seeK_seen : ∀ ds : List (Kd × D), D.allFK seenF (D.mapFK seeF ds) = true
  | [] => rfl
  | (k, d) :: ds => by rw [D.mapFK, D.allFK, seeK_seen ds]; exact (Bool.and_true _).trans (see_seen d)
end
noncomputable def giveQ : List Md → List D → Option (List D)
  | [], [] => some []
  | .r :: ms, d :: ds => (giveQ ms ds).map (d.view :: ·)
  | .s :: ms, d :: ds => (giveQ ms ds).map (d.see :: ·)
  | .k :: ms, d :: ds => if d.st.kept = true then (giveQ ms ds).map (d.st :: ·) else none
  | _, _ => none
theorem give_at {K : PySem.W.Frag} {G B H G' H' : Hp} {Tm : Addr → Prop} (e : Ext G H G' H') (bh : SmN B H) (hT : ∀ a, Tm a → H' a = none) : ∀ {ms : List Md} {vs : List V} {ds es : List D}, Dta K G' B H' vs ds → (∀ v d, (v, d) ∈ vs.zip ds → Fresh H G' v d) → giveQ ms ds = some es →
    vs.length = ms.length ∧ es.length = ms.length ∧ ∀ (j : Nat) (md : Md) (v : V) (d : D), ms[j]? = some md → vs[j]? = some v → es[j]? = some d → Dat K (grab H G' H') (less (grab H G' H') Tm H') H' [] v d ∧ MOk md [] d := by
  obtain ⟨e2, s⟩ := grab_ext e
  have bh' : SmN B H' := bh.trans e.h
  intro ms
  induction ms with
  | nil =>
    intro vs ds es hd fr h
    cases hd with
    | nil => cases h; exact ⟨rfl, rfl, fun j md v d a => by simp at a⟩
    | cons _ _ => simp [giveQ] at h
  | cons md ms ih =>
    intro vs ds es hd fr h
    cases hd with
    | nil => cases md <;> simp [giveQ] at h
    | @cons v d vs ds hv ht =>
      have key : ∀ (d' : D) (es' : List D), giveQ ms ds = some es' → es = d' :: es' → Dat K (grab H G' H') (less (grab H G' H') Tm H') H' [] v d' ∧ MOk md [] d' → (v :: vs).length = (md :: ms).length ∧ es.length = (md :: ms).length ∧ ∀ (j : Nat) (md' : Md) (v' : V) (d' : D), (md :: ms)[j]? = some md' → (v :: vs)[j]? = some v' → es[j]? = some d' → Dat K (grab H G' H') (less (grab H G' H') Tm H') H' [] v' d' ∧ MOk md' [] d' := fun d' es' h1 h2 h3 => by
        obtain ⟨i1, i2, i3⟩ := ih ht (fun v d m => fr v d (by simp [m])) h1
        subst h2
        refine ⟨by simp [i1], by simp [i2], fun j md' v' d'' a b c => ?_⟩
        cases j with
        | zero => simp at a b c; subst a b c; exact h3
        | succ j => exact i3 j md' v' d'' (by simpa using a) (by simpa using b) (by simpa using c)
      cases md with
      | m => simp [giveQ] at h
      | r =>
        simp only [giveQ, Option.map_eq_some_iff] at h
        obtain ⟨es', h1, rfl⟩ := h
        refine key _ _ h1 rfl ⟨?_, rfl, view_lent d⟩
        obtain ⟨S, hv⟩ := hv
        have nT : ∀ {H0 : Hp} {a : Addr} {o : HO}, SmN H0 H' → H0 a = some o → ¬ Tm a := fun s q t => by
          rw [s.z _ (hT _ t)] at q; cases q
        refine Dat.turn s (fun p vs q => ?_) rfl (fun f => by cases f <;> simp [viewF]) (fun f p o nt n m => ?_) hv
        · rcases q with (q | q) | q
          · rcases q with q | ⟨ob, q⟩
            · exact (less_or e2.gh (bh' _ _ q trivial) (nT bh' q)).elim (fun z => .inl (.inl (.inl z))) fun z => .inr (.inl (.inl z))
            · exact (less_or e2.gh (bh' _ _ q trivial) (nT bh' q)).elim (fun z => .inl (.inl (.inr ⟨ob, z⟩))) fun z => .inr (.inl (.inr ⟨ob, z⟩))
          · exact .inl (.inr q)
          · exact .inr (s.seq q)
        · cases f with
          | own => exact ⟨less_or e2.gh n (nT .refl n), rfl⟩
          | new => exact ⟨less_or e2.gh n (nT .refl n), rfl⟩
          | frz => exact ⟨.inr (s p o n), rfl⟩
          | bor => exact ⟨n.elim (fun n => less_or e2.gh (bh' p o n nt) (nT bh' n)) (fun n => .inr (s p o n)), rfl⟩
          | loc => exact n.elim
      | s =>
        simp only [giveQ, Option.map_eq_some_iff] at h
        obtain ⟨es', h1, rfl⟩ := h
        refine key _ _ h1 rfl ⟨?_, rfl, see_seen d⟩
        obtain ⟨S, hv⟩ := hv
        have nT : ∀ {H0 : Hp} {a : Addr} {o : HO}, SmN H0 H' → H0 a = some o → ¬ Tm a := fun s q t => by
          rw [s.z _ (hT _ t)] at q; cases q
        refine Dat.turn s (fun p vs q => ?_) rfl (fun f => by cases f <;> simp [seeF]) (fun f p o nt n m => ?_) hv
        · rcases q with (q | q) | q
          · rcases q with q | ⟨ob, q⟩
            · exact (less_or e2.gh (bh' _ _ q trivial) (nT bh' q)).elim (fun z => .inl (.inl (.inl z))) fun z => .inr (.inl (.inl z))
            · exact (less_or e2.gh (bh' _ _ q trivial) (nT bh' q)).elim (fun z => .inl (.inl (.inr ⟨ob, z⟩))) fun z => .inr (.inl (.inr ⟨ob, z⟩))
          · exact .inl (.inr q)
          · exact .inr (s.seq q)
        · cases f with
          | own => exact ⟨less_or e2.gh n (nT .refl n), rfl⟩
          | new => exact ⟨less_or e2.gh n (nT .refl n), rfl⟩
          | frz => exact ⟨s p o n, rfl⟩
          | bor => exact ⟨n.elim (fun n => less_or e2.gh (bh' p o n nt) (nT bh' n)) (fun n => .inr (s p o n)), rfl⟩
          | loc => exact n.elim
      | k =>
        simp only [giveQ] at h
        by_cases hk : d.st.kept = true
        · rw [if_pos hk, Option.map_eq_some_iff] at h
          obtain ⟨es', h1, rfl⟩ := h
          refine key _ _ h1 rfl ⟨?_, rfl, hk⟩
          obtain ⟨S, hS⟩ := st_dt e hv (fr v d (by simp))
          have := hS.noS (kept_noOwn hk)
          subst this
          exact hS.anyB (kept_noBor hk)
        · rw [if_neg hk] at h; cases h
noncomputable def resQ : OF → Out Exn D
  | .rt d _ => .ok d.q
  | .ex x _ => .ex x
  | .no => .no
noncomputable def callQ (ms : List Md) (F : Fn) (ds : List D) : Out Exn D := match giveQ ms ds with
  | some es => resQ (F es)
  | none => .no
theorem Regs.nil {G B H : Hp} : Regs G B H fun _ => [] := ⟨(fun _ => .nil), (fun _ _ _ _ m => by cases m), (fun _ _ m => by cases m)⟩
theorem callq_up {K : PySem.W.Frag} {W : WX} {σ : L2.St} {G B H G' H' : Hp} {R : VK} {ms : List Md} {F : Fn} {vs : List V} {ds : List D} (e : Ext G H G' H') (bh : SmN B H) (hd : Dta K G' B H' vs ds) (fr : ∀ v d, (v, d) ∈ vs.zip ds → Fresh H G' v d)
    (q : (callQ ms F ds).P (KQ K G B H R) (EX K W G B H σ)) : liftF K ms F vs H' R (WE W σ) := by
  unfold callQ at q
  cases hg : giveQ ms ds with
  | none => rw [hg] at q; exact q.elim
  | some es =>
    rw [hg] at q
    obtain ⟨e2, s⟩ := grab_ext e
    obtain ⟨l1, l2, at'⟩ := give_at (Tm := fun _ => False) e bh (fun _ z => z.elim) hd fr hg
    refine ⟨grab H G' H', less (grab H G' H') (fun _ => False) H', fun _ => [], es, ⟨e2.gh, .of fun a o z => (less_of z).1, fun a o z => (less_of z).2.1, l1, l2, at', .nil⟩, ?_⟩
    simp only at q
    cases hF : F es with
    | no => rw [hF] at q; exact q.elim
    | rt d os =>
      rw [hF] at q
      intro G3 H3 Sa' v T L co hv n nb t1 t2
      obtain ⟨G4, e4, hd4, fr4⟩ := q_res (B := B) e2 (fun _ z => z.elim) L hv nb t1 fun a m => (t2 a m).2
      exact q G4 H3 v e4 hd4 fr4
    | ex x os =>
      rw [hF] at q
      intro G3 H3 Sa' cls dx L co er pl
      have e4 := left_ext (U := []) e2 (fun _ z => z.elim) L fun a m => by cases m
      rw [more_nil] at e4
      exact q G3 H3 cls dx e4 (exn_plain er pl)
noncomputable def qCall (ms : List Md) (F : Fn) (fa : FA) : FQ := fun ρ => (fa ρ).bind (callQ ms F)
noncomputable def isObj (C : Addr) (m : Str) : D → Bool
  | .obj _ C' fs => decide (C' = C) && fs.all fun e => decide (e.1 ≠ kS m)
  | _ => false
noncomputable def qMeth (C : Addr) (m : Str) (ms : List Md) (F : Fn) (fo : FQ) (fa : FA) : FQ := fun ρ => (fo ρ).bind fun o => if isObj C m o = true then (fa ρ).bind fun ds => callQ ms F (o :: ds) else .no
theorem dtm_lookup {K : PySem.W.Frag} {G B H : Hp} {m : Str} : ∀ {vs : List (Str × V)} {ds : List (Kd × D)}, Dtm K G B H (vs.map kF) ds → (ds.all fun e => decide (e.1 ≠ kS m)) = true → vs.lookup m = none
  | [], _, _, _ => rfl
  | (k, v) :: vs, [], h, _ => by have := h.length; simp at this
  | (k, v) :: vs, (k', d) :: ds, h, e => by
    simp only [List.map_cons, kF] at h
    obtain ⟨h1, _, _, h4⟩ := h.uncons
    simp only [List.all_cons, Bool.and_eq_true, decide_eq_true_eq] at e
    subst h1
    have hk : (m == k) = false := by
      simp only [beq_eq_false_iff_ne]
      intro z
      exact e.1 (by rw [z])
    rw [List.lookup_cons, hk]
    exact dtm_lookup h4 (by simpa using e.2)
theorem is_obj {K : PySem.W.Frag} {G B H : Hp} {C : Addr} {m : Str} {v : V} {d : D} (gh : Sub G H) (bh : SmN B H) (hd : Dt K G B H v d) (h : isObj C m d = true) : ∃ a dx fs, v = .ref a ∧ H a = some (.ins C dx fs) ∧ fs.lookup m = none := by
  cases d with
  | obj f C' fs =>
    simp only [isObj, Bool.and_eq_true, decide_eq_true_eq] at h
    obtain ⟨h1, h2⟩ := h
    subst h1
    obtain ⟨p, dx, vs, rfl, h3, h4⟩ := dt_obj gh bh hd
    exact ⟨p, dx, vs, rfl, h3, dtm_lookup h4 (by simpa using h2)⟩
  | _ => cases h
section
variable {X : Cx} {W : WX} {pos p apos : Pos} {x m : Str} {e o : Expr} {es : List Expr} {fa : FA} {fo : FQ} {k : Nat} {ms : List Md} {F : Fn} {C : Addr}
theorem qe_call (F' : VFn X.prog X.w X.K X.mg X.base x k ms F) (hr : Room k X.A) (tk : Takes X W) (ha : QA X W (e :: es) fa) (hg : Gl X x := by rfl) (hdb : (x == ("__debug__" : Str)) = false := by decide)
    (he : starEach (e :: es) X.env = (false, eval e X.env) :: starEach es X.env := by rfl) (hpl : (backTo pos (starEach es X.env)).any (·.1) = false := by rfl) : QE X W (.Call (.Name x p) (e :: es) [] pos) (qCall ms F fa) := by
  obtain ⟨f, fd, ps, F', hm, hk, hb⟩ := F'.ex
  refine peI (pe_callS F' hr hg hm hk hb (fun σ => passAt tk σ) ha hdb he hpl) fun σ H R ⟨G, B, As, ρ, so, q⟩ => ?_
  exact ⟨G, B, As, ρ, so, Out.P_mono (Out.P_bind.mp q) (fun ds q1 G1 H1 vs e1 hd fr => callq_up e1 so.bh hd fr q1) fun _ z => z⟩
theorem pe_meth0S {CX : CXT} {f : Addr} {fd : FuncData} {ps : List Str} {sp : Sp} {E : L2.St → XK} {pl : Sem Bool} {te : TE} (he : PE X o te) (c : Cls X.K C) (hm : Meth X.K C m f) (F : FnOk X.prog X.w X.K X.mg X.base CX k f fd ps sp) (hr : Room k X.A) (hb : Binds X.K fd ps [])
    (hx : ∀ σ, PassesAt CX X σ (E σ))
    (ht : eval (.Call (.Attribute o m apos) [] [] pos) X.env = (do
      let ov ← eval o X.env
      standAt apos.atName
      let (f, first) ← holding [ov] (getMethod ov m pl)
      callWith pos f first (backTo pos (starEach [] X.env)) (backToKw pos (keywordEach [] X.env))) := by rfl) :
    PE X (.Call (.Attribute o m apos) [] [] pos) (fun σ H Q => te σ H fun x H1 => ∃ a dx fs, x = .ref a ∧ H1 a = some (.ins C dx fs) ∧ fs.lookup m = none ∧ sp [x] H1 Q (E σ)) := by
  constructor
  intro pins s σ H Q I h
  apply PySem.W.methodCall_KW (pl := pl) _ ht
  refine thn (he.run pins s σ H _ I h) ?_
  rintro u s1 ⟨x, H1, I1, rx, a, dx, fs, rfl, ea, l, q⟩
  obtain rfl : u = Value.ref a := rx
  apply getmeth_ok I1 ea c hm l
  exact PySem.W.callWith_K0 (first := [.ref a]) I1.kIn hm.kp (run_fnS (us := [.ref a]) (vs := [.ref a]) F hr hb (hx σ) I1 (.cons rfl .nil) q)
theorem qe_meth0 {pl : Sem Bool} (c : Cls X.K C) (F' : VMt X.prog X.w X.K X.mg X.base C m k ms F) (hr : Room k X.A) (tk : Takes X W) (ho : QE X W o fo)
    (ht : eval (.Call (.Attribute o m apos) [] [] pos) X.env = (do
      let ov ← eval o X.env
      standAt apos.atName
      let (f, first) ← holding [ov] (getMethod ov m pl)
      callWith pos f first (backTo pos (starEach [] X.env)) (backToKw pos (keywordEach [] X.env))) := by rfl) : QE X W (.Call (.Attribute o m apos) [] [] pos) (qMeth C m ms F fo aNil) := by
  obtain ⟨f, fd, ps, F', hm, hb⟩ := F'.ex
  refine peI (pe_meth0S ho c hm F' hr hb (fun σ => passAt tk σ) ht) fun σ H R ⟨G, B, As, ρ, so, q⟩ => ?_
  refine upQ_bind so q fun d G1 H1 v e1 hd fr q1 => ?_
  obtain ⟨ho, q1⟩ := Out.P_ifn q1
  obtain ⟨a, dx, fs, rfl, h1, h2⟩ := is_obj e1.gh (so.ext e1).bh hd ho
  exact ⟨a, dx, fs, rfl, h1, h2, callq_up e1 so.bh (.cons hd .nil) (fun v' d' m' => by
    rcases List.mem_cons.mp m' with m' | m'
    · cases m'; exact fr
    · simp at m') q1⟩
end
end VL

/-! VLp: calls that change things. -/
namespace VL
open PySem PySem.Spec PyProof.Rows L2
variable [LamT]

/-- all is there for the call -/
structure Rdy (K : PySem.W.Frag) (G B Φ H : Hp) (As : List V) (S : Pi → List Addr) (σ : L2.St) (ρ : Plc) (ms : List Md) (Sa : Nat → List Addr) (vs : List V) (es : List D) (hs : List (Option Lc)) : Prop where
  rep : VRep K G B Φ H As S σ ρ
  tok : ∀ j, TOk (Sa j) S G Φ H
  dj : ∀ i j a, i ≠ j → a ∈ Sa i → a ∉ Sa j
  vl : vs.length = ms.length
  dl : es.length = ms.length
  at' : ∀ (j : Nat) (md : Md) (v : V) (d : D), ms[j]? = some md → vs[j]? = some v → es[j]? = some d → Dat K G (less G (fun a => ∃ j, a ∈ Sa j) H) H (Sa j) v d ∧ MOk md (Sa j) d
  back : ∀ (j : Nat) (l : Lc), hs[j]? = some (some l) → ms[j]? = some .m ∧ ∀ v, vs[j]? = some v → l.At σ As v
noncomputable def putH : List (Option Lc) → List (Option D) → Plc → Plc
  | some l :: hs, some d :: os, ρ => putH hs os (ρ.put l d)
  | _ :: hs, _ :: os, ρ => putH hs os ρ
  | _, _, ρ => ρ
noncomputable def afterG (o : OF) (hs : List (Option Lc)) (ρ : Plc) : Out (Exn × Plc) (D × Plc) := match o with
  | .rt d os => .ok (d, putH hs os ρ)
  | .ex x os => .ex (x, putH hs os ρ)
  | .no => .no
section
variable {K : PySem.W.Frag} {W : WX} {G B Φ H : Hp} {As : List V} {S : Pi → List Addr} {σ : L2.St} {ρ : Plc} {ms : List Md} {Sa : Nat → List Addr} {vs : List V} {es : List D} {hs : List (Option Lc)}
theorem VRep.left {G' H' : Hp} {Tm : Addr → Prop} (r : VRep K G B Φ H As S σ ρ) (hS : ∀ i, ∀ a ∈ S i, ¬ Tm a) (hP : ∀ a, Tm a → Φ a = none) (L : Left G (less G Tm H) G' H') : VRep K G' B Φ H' As S σ ρ ∧ (∀ i, ∀ a ∈ S i, less G Tm H a ≠ none) ∧ ∀ a o, Φ a = some o → less G Tm H a ≠ none := by
  have hl : ∀ i, ∀ a ∈ S i, ∃ o, H a = some o ∧ HO.free o ∧ less G Tm H a = some o ∧ Φ a = none := fun i a m => by
    obtain ⟨h1, h2, o, h3, h4⟩ := r.fr i a m
    exact ⟨o, h3, h4, less_at h3 h1 (hS i a m), h2⟩
  have hq : ∀ a o u, Φ a = some o → H a = some u → less G Tm H a = some u := fun a o u e h => less_at h (r.dis a o e) fun t => by rw [hP a t] at e; cases e
  have hp : ∀ a o, Φ a = some o → ∃ u, less G Tm H a = some u := fun a o e => let ⟨u, h⟩ := r.ph.ex e; ⟨u, hq a o u e h⟩
  have on : ∀ i, On (S i) H H' := fun i a m o e n => by
    obtain ⟨u, h1, _, h2, _⟩ := hl i a m
    rw [e] at h1; cases h1
    exact L.bh a o h2 n
  refine ⟨⟨L.gh, r.bp, ⟨fun a o e n => L.bh a o (hq a o o e (r.ph a o e n)) n, fun a ps e => let ⟨qs, h⟩ := r.ph.y a ps e; L.bh.y a qs (hq a _ _ e h)⟩, fun a o e => let ⟨u, h⟩ := hp a o e; L.dis a u h, r.len, r.alen, fun i d q => let ⟨n, v, h1, h2⟩ := r.slot i d q; ⟨n, v, h1, h2.mono L.g (fun _ _ q => q) (on _)⟩, r.arg, fun i d q => let ⟨n, v, h1, h2⟩ := r.ar i d q; ⟨n, v, h1, h2.mono L.g (fun _ _ q => q) (on _)⟩, r.nd, r.dj, fun i a m => ?_⟩, fun i a m => ?_, fun a o e => ?_⟩
  · obtain ⟨o, h1, h2, h3, h4⟩ := hl i a m
    exact ⟨L.dis a o h3, h4, o, L.bh a o h3 h2.n, h2⟩
  · obtain ⟨o, h1, h2, h3, h4⟩ := hl i a m
    rw [h3]; simp
  · obtain ⟨u, h⟩ := hp a o e
    rw [h]; simp
/-- what was taken out goes back -/
theorem VRep.putH {Sa' : Nat → List Addr} {os : List (Option D)} {Sx : Addr → Prop} : ∀ (n : Nat) (hs : List (Option Lc)) (os' : List (Option D)) {S : Pi → List Addr} {ρ : Plc}, VRep K G B Φ H As S σ ρ → (∀ (j : Nat) (l : Lc) (d : D), hs[j]? = some (some l) → os'[j]? = some (some d) → ∃ v, l.At σ As v ∧ Dat K G B H (Sa' (n + j)) v d ∧ d.old ∧ (Sa' (n + j)).Nodup ∧ ∀ a ∈ Sa' (n + j), G a = none ∧ Φ a = none ∧ ∃ o, H a = some o ∧ HO.free o) →
    (∀ j, n ≤ j → ∀ a ∈ Sa' j, ∀ i, a ∉ S i) → (∀ i j a, i ≠ j → a ∈ Sa' i → a ∉ Sa' j) → ∃ S', VRep K G B Φ H As S' σ (VL.putH hs os' ρ) ∧ ∀ i a, a ∈ S' i → (∃ j, a ∈ S j) ∨ ∃ j, n ≤ j ∧ a ∈ Sa' j
  | n, [], os', S, ρ, r, _, _, _ => ⟨S, by cases os' <;> exact r, fun i a m => .inl ⟨i, m⟩⟩
  | n, h :: hs, [], S, ρ, r, _, _, _ => ⟨S, by cases h <;> exact r, fun i a m => .inl ⟨i, m⟩⟩
  | n, none :: hs, o :: os', S, ρ, r, h, k1, k2 => by
    obtain ⟨S', r', q⟩ := VRep.putH (Sa' := Sa') (os := os) (Sx := Sx) (n + 1) hs os' r (fun j l d e1 e2 => by
      have := h (j + 1) l d (by simpa using e1) (by simpa using e2)
      rwa [show n + (j + 1) = n + 1 + j by omega] at this) (fun j hj => k1 j (by omega)) k2
    exact ⟨S', by cases o <;> exact r', fun i a m => (q i a m).imp id fun ⟨j, h1, h2⟩ => ⟨j, by omega, h2⟩⟩
  | n, some l :: hs, none :: os', S, ρ, r, h, k1, k2 => by
    obtain ⟨S', r', q⟩ := VRep.putH (Sa' := Sa') (os := os) (Sx := Sx) (n + 1) hs os' r (fun j l d e1 e2 => by
      have := h (j + 1) l d (by simpa using e1) (by simpa using e2)
      rwa [show n + (j + 1) = n + 1 + j by omega] at this) (fun j hj => k1 j (by omega)) k2
    exact ⟨S', r', fun i a m => (q i a m).imp id fun ⟨j, h1, h2⟩ => ⟨j, by omega, h2⟩⟩
  | n, some l :: hs, some d :: os', S, ρ, r, h, k1, k2 => by
    obtain ⟨v, h1, h2, h3, h4, h5⟩ := h 0 l d rfl rfl
    rw [Nat.add_zero] at h2 h4 h5
    have r1 := r.putL h1 h2 h3 ⟨h4, fun a m => ⟨fun i => k1 n (Nat.le_refl _) a m i, h5 a m⟩⟩
    obtain ⟨S', r', q⟩ := VRep.putH (Sa' := Sa') (os := os) (Sx := Sx) (n + 1) hs os' r1 (fun j l d e1 e2 => by
      have := h (j + 1) l d (by simpa using e1) (by simpa using e2)
      rwa [show n + (j + 1) = n + 1 + j by omega] at this) (fun j hj a m i q => by
        by_cases hi : i = l.pi
        · subst hi
          rw [setS_same] at q
          exact k2 n j a (by omega) q m
        · rw [setS_ne hi] at q
          exact k1 j (by omega) a m i q) k2
    refine ⟨S', r', fun i a m => ?_⟩
    rcases q i a m with ⟨j, q⟩ | ⟨j, h1, q⟩
    · by_cases hj : j = l.pi
      · subst hj; rw [setS_same] at q; exact .inr ⟨n, Nat.le_refl _, q⟩
      · rw [setS_ne hj] at q; exact .inl ⟨j, q⟩
    · exact .inr ⟨j, by omega, q⟩
/-- what a call leaves, put back -/
theorem rdy_back {G' H' : Hp} {Sa' : Nat → List Addr} {os : List (Option D)} (rd : Rdy K G B Φ H As S σ ρ ms Sa vs es hs) (L : Left G (less G (fun a => ∃ j, a ∈ Sa j) H) G' H') (co : COut K G' (less G (fun a => ∃ j, a ∈ Sa j) H) H' ms Sa' vs os) :
    ∃ S', VRep K G' B Φ H' As S' σ (putH hs os ρ) ∧ ∀ i a, a ∈ S' i → less G (fun a => ∃ j, a ∈ Sa j) H a ≠ none ∨ ∃ j, a ∈ Sa' j := by
  obtain ⟨r1, r2, r3⟩ := rd.rep.left (fun i a m ⟨j, z⟩ => ((rd.tok j).2 a z).1 i m) (fun a ⟨j, z⟩ => ((rd.tok j).2 a z).2.2.1) L
  obtain ⟨S', r', q⟩ := VRep.putH (Sa' := Sa') (os := os) (Sx := fun _ => True) 0 hs os r1 (fun j l d e1 e2 => by
    obtain ⟨b1, b2⟩ := rd.back j l e1
    obtain ⟨d', v, c1, c2, c3, c4, c5⟩ := co.at' j b1
    rw [e2] at c1
    cases c1
    rw [Nat.zero_add]
    exact ⟨v, b2 v c2, c3.anyB c5, c4, co.rg.nd j, fun a m => by
      obtain ⟨g1, g2, g3⟩ := co.rg.fr j a m
      refine ⟨g1, ?_, g3⟩
      cases z : Φ a with
      | none => rfl
      | some u => exact absurd g2 (r3 a u z)⟩) (fun j _ a m i q => r2 i a q (co.rg.fr j a m).2.1) co.rg.dj
  exact ⟨S', r', fun i a m => (q i a m).imp (fun ⟨j, z⟩ => r2 j a z) fun ⟨j, _, z⟩ => ⟨j, z⟩⟩
theorem tok_out {G' H' : Hp} {Sa' : Nat → List Addr} {T : List Addr} {S' : Pi → List Addr} (rd : Rdy K G B Φ H As S σ ρ ms Sa vs es hs) (t1 : T.Nodup) (t2 : ∀ a ∈ T, (∀ j, a ∉ Sa' j) ∧ G' a = none ∧ less G (fun a => ∃ j, a ∈ Sa j) H a = none ∧ ∃ o, H' a = some o ∧ HO.free o) (hS : ∀ i a, a ∈ S' i → less G (fun a => ∃ j, a ∈ Sa j) H a ≠ none ∨ ∃ j, a ∈ Sa' j) : TOk T S' G' Φ H' :=
  ⟨t1, fun a m => by
    obtain ⟨h1, h2, h3, h4⟩ := t2 a m
    refine ⟨fun i q => (hS i a q).elim (fun z => z h3) fun ⟨j, z⟩ => h1 j z, h2, ?_, h4⟩
    cases z : Φ a with
    | none => rfl
    | some u =>
      obtain ⟨u', hu⟩ := rd.rep.ph.ex z
      have := less_at hu (rd.rep.dis a u z) (T := fun a => ∃ j, a ∈ Sa j) fun ⟨j, y⟩ => by
        have := ((rd.tok j).2 a y).2.2.1
        rw [z] at this; cases this
      rw [h3] at this; cases this⟩
theorem Rdy.cin (rd : Rdy K G B Φ H As S σ ρ ms Sa vs es hs) : CIn K G (less G (fun a => ∃ j, a ∈ Sa j) H) H ms Sa vs es :=
  ⟨rd.rep.gh, .of fun a o z => (less_of z).1, fun a o z => (less_of z).2.1, rd.vl, rd.dl, rd.at', fun j => (rd.tok j).1, rd.dj, fun j a m => ⟨((rd.tok j).2 a m).2.1, by
    cases z : less G (fun a => ∃ j, a ∈ Sa j) H a with
    | none => rfl
    | some u => exact absurd ⟨j, m⟩ (less_of z).2.2, ((rd.tok j).2 a m).2.2.2⟩⟩
/-- the call itself -/
theorem rdy_call {F : Fn} {R : VK} (rd : Rdy K G B Φ H As S σ ρ ms Sa vs es hs) (q : (afterG (F es) hs ρ).P (GK K G B Φ As σ R) (GX K W G B Φ As σ)) : liftF K ms F vs H R (WE W σ) := by
  refine ⟨G, _, Sa, es, rd.cin, ?_⟩
  unfold afterG at q
  cases hF : F es with
  | no => rw [hF] at q; exact q.elim
  | rt d os =>
    rw [hF] at q
    intro G' H' Sa' v T L co hd n nb t1 t2
    obtain ⟨S', r', hS⟩ := rdy_back rd L co
    exact q G' H' S' v T L.g r' (hd.anyB nb) n (tok_out rd t1 t2 hS)
  | ex x os =>
    rw [hF] at q
    intro G' H' Sa' cls dx L co er pl
    obtain ⟨S', r', hS⟩ := rdy_back rd L co
    exact q G' H' S' cls dx L.g r' (exn_plain er pl)
end
/-- arguments that are read and taken -/
noncomputable abbrev FAr := Plc → Out (Exn × Plc) (List D × List (Option Lc) × Plc)
noncomputable def upAr (K : PySem.W.Frag) (W : WX) (ms : List Md) (f : FAr) : TA := fun σ H R => ∃ (G B Φ : Hp) (As : List V) (S : Pi → List Addr) (ρ : Plc), VRep K G B Φ H As S σ ρ ∧ (f ρ).P (fun x => ∀ G' H' S' Sa vs, Same G G' → Rdy K G' B Φ H' As S' σ x.2.2 ms Sa vs x.1 x.2.1 → R vs H') (GX K W G B Φ As σ)
noncomputable def gCall (F : Fn) (f : FAr) : FG := fun ρ => (f ρ).bind fun x => afterG (F x.1) x.2.1 x.2.2
theorem gcall_up {K : PySem.W.Frag} {W : WX} {ms : List Md} {f : FAr} {F : Fn} {σ : L2.St} {H : Hp} {R : VK} (h : upG K W (gCall F f) σ H R) : upAr K W ms f σ H fun vs H' => liftF K ms F vs H' R (WE W σ) := by
  obtain ⟨G, B, Φ, As, S, ρ, r, q⟩ := h
  exact ⟨G, B, Φ, As, S, ρ, r, Out.P_mono (Out.P_bind.mp q) (fun x q1 G' H' S' Sa vs s rd => rdy_call rd (Out.P_mono q1 (fun _ k => k.mono s) fun _ k => k.mono s)) fun _ z => z⟩
/-- a method's receiver and arguments -/
structure CM (X : Cx) (W : WX) (C : Addr) (m : Str) (o : Expr) (es : List Expr) (ms : List Md) (f : FAr) : Prop where
  ex : ∃ (te : TE) (ta : TA), PE X o te ∧ PA X es ta ∧ ∀ σ H R, upAr X.K W ms f σ H R → te σ H fun x H1 => ∃ a dx fs, x = .ref a ∧ H1 a = some (.ins C dx fs) ∧ fs.lookup m = none ∧ ta σ H1 fun vs H2 => R (x :: vs) H2
structure CM0 (X : Cx) (W : WX) (C : Addr) (m : Str) (o : Expr) (ms : List Md) (f : FAr) : Prop where
  ex : ∃ te : TE, PE X o te ∧ ∀ σ H R, upAr X.K W ms f σ H R → te σ H fun x H1 => ∃ a dx fs, x = .ref a ∧ H1 a = some (.ins C dx fs) ∧ fs.lookup m = none ∧ R [x] H1
noncomputable abbrev CA (X : Cx) (W : WX) (es : List Expr) (ms : List Md) (f : FAr) : Prop := PA X es (upAr X.K W ms f)
section
variable {X : Cx} {W : WX} {pos p apos : Pos} {x m : Str} {e o : Expr} {es : List Expr} {k : Nat} {ms : List Md} {F : Fn} {f : FAr} {C : Addr}
theorem ge_call (F' : VFn X.prog X.w X.K X.mg X.base x k ms F) (hr : Room k X.A) (tk : Takes X W) (ha : CA X W (e :: es) ms f) (hg : Gl X x := by rfl) (hdb : (x == ("__debug__" : Str)) = false := by decide)
    (he : starEach (e :: es) X.env = (false, eval e X.env) :: starEach es X.env := by rfl) (hpl : (backTo pos (starEach es X.env)).any (·.1) = false := by rfl) : GE X W (.Call (.Name x p) (e :: es) [] pos) (gCall F f) := by
  obtain ⟨a, fd, ps, F', hm, hk, hb⟩ := F'.ex
  exact peI (pe_callS F' hr hg hm hk hb (fun σ => passAt tk σ) ha hdb he hpl) fun σ H R h => gcall_up h
theorem ge_meth0 {pl : Sem Bool} (c : Cls X.K C) (F' : VMt X.prog X.w X.K X.mg X.base C m k ms F) (hr : Room k X.A) (tk : Takes X W) (ha : CM0 X W C m o ms f)
    (ht : eval (.Call (.Attribute o m apos) [] [] pos) X.env = (do
      let ov ← eval o X.env
      standAt apos.atName
      let (f, first) ← holding [ov] (getMethod ov m pl)
      callWith pos f first (backTo pos (starEach [] X.env)) (backToKw pos (keywordEach [] X.env))) := by rfl) : GE X W (.Call (.Attribute o m apos) [] [] pos) (gCall F f) := by
  obtain ⟨a, fd, ps, F', hm, hb⟩ := F'.ex
  obtain ⟨te, ho, imp⟩ := ha.ex
  exact peI (pe_meth0S ho c hm F' hr hb (fun σ => passAt tk σ) ht) fun σ H R h => imp σ H _ (gcall_up h)
end
end VL

/-! VLt: the arguments of such calls. -/
namespace VL
open PySem PySem.Spec PyProof.Rows L2
variable [LamT]

/-- the places of some names are emptied -/
noncomputable def takeH : List (Option Nat) → Plc → Option (List (Option (Lc × D)) × Plc)
  | [], ρ => some ([], ρ)
  | none :: is, ρ => (takeH is ρ).map fun x => (none :: x.1, x.2)
  | some i :: is, ρ => match ρ.lc i with
    | none => none
    | some l => match ρ.get l with
      | none => none
      | some d => (takeH is (ρ.rm l)).map fun x => (some (l, d) :: x.1, x.2)
structure Taken (K : PySem.W.Frag) (G B Φ H : Hp) (As : List V) (S : Pi → List Addr) (σ : L2.St) (is : List (Option Nat)) (hs : List (Option (Lc × D))) (ρ0 : Plc) (S' : Pi → List Addr) (Sa : Nat → List Addr) : Prop where
  rep : VRep K G B Φ H As S' σ ρ0
  sub : ∀ i a, a ∈ S' i → a ∈ S i
  len : hs.length = is.length
  non : ∀ j : Nat, is[j]? = some none → hs[j]? = some none
  som : ∀ (j i : Nat), is[j]? = some (some i) → ∃ l d v, hs[j]? = some (some (l, d)) ∧ σ[i]? = some (some v) ∧ l.At σ As v ∧ d.old ∧ Dat K G B H (Sa j) v d
  tok : ∀ j, TOk (Sa j) S' G Φ H
  dj : ∀ i j a, i ≠ j → a ∈ Sa i → a ∉ Sa j
  src : ∀ j a, a ∈ Sa j → ∃ i, a ∈ S i
  emp : ∀ j : Nat, (∀ i, is[j]? ≠ some (some i)) → Sa j = []
theorem TOk.sub {T : List Addr} {S S' : Pi → List Addr} {G Φ H : Hp} (t : TOk T S G Φ H) (h : ∀ i a, a ∈ S' i → a ∈ S i) : TOk T S' G Φ H := ⟨t.1, fun a m => ⟨fun i q => (t.2 a m).1 i (h i a q), (t.2 a m).2⟩⟩
theorem take_ok {K : PySem.W.Frag} {G B Φ H : Hp} {As : List V} {σ : L2.St} : ∀ {is : List (Option Nat)} {S : Pi → List Addr} {ρ ρ0 : Plc} {hs : List (Option (Lc × D))}, VRep K G B Φ H As S σ ρ → takeH is ρ = some (hs, ρ0) → ∃ S' Sa, Taken K G B Φ H As S σ is hs ρ0 S' Sa
  | [], S, ρ, ρ0, hs, r, h => by
    cases h
    exact ⟨S, fun _ => [], r, fun _ _ m => m, rfl, fun j e => by simp at e, fun j i e => by simp at e, fun _ => .nil, (fun _ _ _ _ m => by cases m), (fun _ _ m => by cases m), fun _ _ => rfl⟩
  | none :: is, S, ρ, ρ0, hs, r, h => by
    simp only [takeH, Option.map_eq_some_iff] at h
    obtain ⟨⟨hs', ρ1⟩, h1, h2⟩ := h
    cases h2
    obtain ⟨S', Sa, t⟩ := take_ok r h1
    refine ⟨S', fun j => match j with | 0 => [] | j + 1 => Sa j, t.rep, t.sub, by simp [t.len], fun j e => ?_, fun j i e => ?_, fun j => ?_, fun i j a hij m => ?_, fun j a m => ?_, fun j e => ?_⟩
    · cases j with
      | zero => rfl
      | succ j => simpa using t.non j (by simpa using e)
    · cases j with
      | zero => simp at e
      | succ j => simpa using t.som j i (by simpa using e)
    · cases j with
      | zero => exact .nil
      | succ j => exact t.tok j
    · cases i with
      | zero => cases m
      | succ i => cases j with
        | zero => simp
        | succ j => exact t.dj i j a (by simpa using hij) m
    · cases j with
      | zero => cases m
      | succ j => exact t.src j a m
    · cases j with
      | zero => rfl
      | succ j => exact t.emp j (fun i q => e i (by simpa using q))
  | some n :: is, S, ρ, ρ0, hs, r, h => by
    simp only [takeH] at h
    cases hl : ρ.lc n with
    | none => rw [hl] at h; cases h
    | some l =>
      rw [hl] at h
      simp only at h
      cases hg : ρ.get l with
      | none => rw [hg] at h; cases h
      | some d =>
        rw [hg] at h
        simp only [Option.map_eq_some_iff] at h
        obtain ⟨⟨hs', ρ1⟩, h1, h2⟩ := h
        cases h2
        obtain ⟨v, a1, a2, a3, a4, a5⟩ := r.takeL hg
        obtain ⟨v', b1, b2⟩ := r.lc_at hl
        have := Lc.at_eq a1 b2
        subst this
        obtain ⟨S', Sa, t⟩ := take_ok a4 h1
        have sub0 : ∀ i a, a ∈ setS S l.pi [] i → a ∈ S i ∧ a ∉ S l.pi := fun i a m => by
          by_cases hi : i = l.pi
          · subst hi; rw [setS_same] at m; cases m
          · rw [setS_ne hi] at m
            exact ⟨m, r.dj _ _ a hi m⟩
        refine ⟨S', fun j => match j with | 0 => S l.pi | j + 1 => Sa j, t.rep, fun i a m => (sub0 i a (t.sub i a m)).1, by simp [t.len], fun j e => ?_, fun j i e => ?_, fun j => ?_, fun i j a hij m => ?_, fun j a m => ?_, fun j e => ?_⟩
        · cases j with
          | zero => simp at e
          | succ j => simpa using t.non j (by simpa using e)
        · cases j with
          | zero =>
            simp at e
            subst e
            exact ⟨l, d, v, rfl, b1, a1, a2, a3⟩
          | succ j => simpa using t.som j i (by simpa using e)
        · cases j with
          | zero => exact a5.sub t.sub
          | succ j => exact t.tok j
        · cases i with
          | zero => cases j with
            | zero => exact absurd rfl hij
            | succ j =>
              intro q
              obtain ⟨i, z⟩ := t.src j a q
              exact (sub0 i a z).2 m
          | succ i => cases j with
            | zero =>
              intro q
              obtain ⟨k, z⟩ := t.src i a m
              exact (sub0 k a z).2 q
            | succ j => exact t.dj i j a (by simpa using hij) m
        · cases j with
          | zero => exact ⟨_, m⟩
          | succ j =>
            obtain ⟨i, z⟩ := t.src j a m
            exact ⟨i, (sub0 i a z).1⟩
        · cases j with
          | zero => exact absurd rfl (e n)
          | succ j => exact t.emp j (fun i q => e i (by simpa using q))

/-! ### quiet arguments and names that are changed -/
inductive Ag where
  | q (f : FQ) | s (f : FQ) | k (f : FQ) | m (i : Nat)
noncomputable def Ag.md : Ag → Md
  | .q _ => .r
  | .s _ => .r
  | .k _ => .k
  | .m _ => .m
noncomputable def Ag.sl : Ag → Option Nat
  | .m i => some i
  | _ => none
/-- lent ones are read where the changed ones are out; settled ones are read before -/
noncomputable def exP (o : Out Exn D) : Out Exn D := match o with
  | .ex x => if x.plain = true then .ex x else .no
  | o => o
noncomputable def evalA : List Ag → List (Option (Lc × D)) → Plc → Plc → Out Exn (List D)
  | [], _, _, _ => .ok []
  | .q f :: as, _ :: hs, ρ, ρv => (exP (f ρv)).bind fun d => if d.free = true then (evalA as hs ρ ρv).bind fun ds => .ok (d.view :: ds) else .no
  | .s f :: as, _ :: hs, ρ, ρv => (f ρ).bind fun d => if d.st.kept = true then (evalA as hs ρ ρv).bind fun ds => .ok (d.st.view :: ds) else .no
  | .k f :: as, _ :: hs, ρ, ρv => (f ρ).bind fun d => if d.st.kept = true then (evalA as hs ρ ρv).bind fun ds => .ok (d.st :: ds) else .no
  | .m i :: as, some (l, d) :: hs, ρ, ρv => if d.noBor = true then (evalA as hs ρ ρv).bind fun ds => .ok (d :: ds) else .no
  | _, _, _, _ => .no
noncomputable def faQ (as : List Ag) : FAr := fun ρ => match takeH (as.map Ag.sl) ρ with
  | none => .no
  | some (hs, ρ0) => match evalA as hs ρ ρ0.view with
    | .ok es => .ok (es, hs.map (Option.map Prod.fst), ρ0)
    | .ex x => .ex (x, ρ)
    | .no => .no
inductive ArgsR (K : PySem.W.Frag) (G' B Bv H H' : Hp) (σ : L2.St) : List Ag → List (Option (Lc × D)) → List V → List D → Prop
  | nil {hs} : ArgsR K G' B Bv H H' σ [] hs [] []
  | q {f as h hs v d vs ds} (hd : Dt K G' Bv H' v d) (fr : Fresh H G' v d) (hf : d.free = true) (t : ArgsR K G' B Bv H H' σ as hs vs ds) : ArgsR K G' B Bv H H' σ (.q f :: as) (h :: hs) (v :: vs) (d.view :: ds)
  | s {f as h hs v d vs ds} (hd : Dt K G' B H' v d) (fr : Fresh H G' v d) (hk : d.st.kept = true) (t : ArgsR K G' B Bv H H' σ as hs vs ds) : ArgsR K G' B Bv H H' σ (.s f :: as) (h :: hs) (v :: vs) (d.st.view :: ds)
  | k {f as h hs v d vs ds} (hd : Dt K G' B H' v d) (fr : Fresh H G' v d) (hk : d.st.kept = true) (t : ArgsR K G' B Bv H H' σ as hs vs ds) : ArgsR K G' B Bv H H' σ (.k f :: as) (h :: hs) (v :: vs) (d.st :: ds)
  | m {i as l d hs v vs ds} (hv : σ[i]? = some (some v)) (nb : d.noBor = true) (t : ArgsR K G' B Bv H H' σ as hs vs ds) : ArgsR K G' B Bv H H' σ (.m i :: as) (some (l, d) :: hs) (v :: vs) (d :: ds)
theorem ArgsR.back {K : PySem.W.Frag} {G H G1 H1 G' B Bv H' : Hp} {σ : L2.St} (e : Ext G H G1 H1) : ∀ {as hs vs ds}, ArgsR K G' B Bv H1 H' σ as hs vs ds → ArgsR K G' B Bv H H' σ as hs vs ds
  | _, _, _, _, .nil => .nil
  | _, _, _, _, .q hd fr hf t => .q hd (fr.back e) hf (ArgsR.back e t)
  | _, _, _, _, .s hd fr hf t => .s hd (fr.back e) hf (ArgsR.back e t)
  | _, _, _, _, .k hd fr hf t => .k hd (fr.back e) hf (ArgsR.back e t)
  | _, _, _, _, .m hv nb t => .m hv nb (ArgsR.back e t)
noncomputable def Al (σ : L2.St) : List Ag → List (Option (Lc × D)) → Prop
  | .m i :: as, some _ :: hs => (∃ v, σ[i]? = some (some v)) ∧ Al σ as hs
  | _ :: as, _ :: hs => Al σ as hs
  | _, _ => True
noncomputable def upCQ (K : PySem.W.Frag) (W : WX) (as : List Ag) : TA := fun σ H R => ∃ (G B Bv : Hp) (As : List V) (ρ ρv : Plc) (hs : List (Option (Lc × D))), SOk K G B H As σ ρ ∧ SOk K G Bv H As σ ρv ∧ Al σ as hs ∧
  (evalA as hs ρ ρv).P (fun es => ∀ G' H' vs, Ext G H G' H' → ArgsR K G' B Bv H H' σ as hs vs es → R vs H') (EX K W G B H σ)
inductive Ags (X : Cx) (W : WX) : List Expr → List Ag → Prop
  | nil : Ags X W [] []
  | q {e : Expr} {es : List Expr} {f : FQ} {as : List Ag} (h : QE X W e f) (t : Ags X W es as) (hs : starEach (e :: es) X.env = (false, eval e X.env) :: starEach es X.env := by rfl) : Ags X W (e :: es) (.q f :: as)
  | s {e : Expr} {es : List Expr} {f : FQ} {as : List Ag} (h : QE X W e f) (t : Ags X W es as) (hs : starEach (e :: es) X.env = (false, eval e X.env) :: starEach es X.env := by rfl) : Ags X W (e :: es) (.s f :: as)
  | k {e : Expr} {es : List Expr} {f : FQ} {as : List Ag} (h : QE X W e f) (t : Ags X W es as) (hs : starEach (e :: es) X.env = (false, eval e X.env) :: starEach es X.env := by rfl) : Ags X W (e :: es) (.k f :: as)
  | m {x : Str} {pos : Pos} {es : List Expr} {as : List Ag} (i : Nat) (t : Ags X W es as) (hN : X.N[i]? = some x := by rfl) (hv : Vis X.env.scope x := by first | exact Or.inl rfl | exact Or.inr (Or.inl rfl) | exact Or.inr (Or.inr rfl)) (hd : (x == ("__debug__" : Str)) = false := by decide) (hcd : (x == ("__classdict__" : Str)) = false := by decide)
    (hs : starEach (.Name x pos :: es) X.env = (false, eval (.Name x pos) X.env) :: starEach es X.env := by rfl) : Ags X W (.Name x pos :: es) (.m i :: as)
theorem SOk.same {K : PySem.W.Frag} {G B H : Hp} {As : List V} {σ : L2.St} {ρ : Plc} (so : SOk K G B H As σ ρ) : Sub G H := so.gh
theorem exP_P {o : Out Exn D} {P : D → Prop} {K : PySem.W.Frag} {W : WX} {G B B' H : Hp} {σ : L2.St} (h : (exP o).P P (EX K W G B H σ)) : o.P P (EX K W G B' H σ) := by
  cases o with
  | ok d => exact h
  | no => exact h
  | ex x =>
    simp only [exP] at h
    obtain ⟨hp, h⟩ := Out.P_ifn h
    exact fun G' H' cls dx e er => h G' H' cls dx e (exn_plain er hp)
section
variable {X : Cx} {W : WX} {e : Expr} {es : List Expr} {as : List Ag} {f : FQ} {x : Str} {i : Nat} {pos : Pos}
/-- the head, then the rest -/
theorem cq_step {K : PySem.W.Frag} {σ : L2.St} {H : Hp} {R : List V → Hp → Prop} {a : Ag} {as : List Ag} {G B Bv : Hp} {As : List V} {ρ ρv : Plc} {h : Option (Lc × D)} {hs : List (Option (Lc × D))} {v : V} {G1 H1 : Hp} {d0 : D}
    (so : SOk K G B H As σ ρ) (sv : SOk K G Bv H As σ ρv) (al : Al σ as hs) (e1 : Ext G H G1 H1)
    (q : ((evalA as hs ρ ρv).bind fun ds => Out.ok (d0 :: ds)).P (fun es => ∀ G' H' vs, Ext G H G' H' → ArgsR K G' B Bv H H' σ (a :: as) (h :: hs) vs es → R vs H') (EX K W G B H σ))
    (mk : ∀ G2 H2 vs ds, Ext G1 H1 G2 H2 → ArgsR K G2 B Bv H H2 σ as hs vs ds → ArgsR K G2 B Bv H H2 σ (a :: as) (h :: hs) (v :: vs) (d0 :: ds)) : upCQ K W as σ H1 fun vs H' => R (v :: vs) H' :=
  ⟨G1, B, Bv, As, ρ, ρv, hs, so.ext e1, sv.ext e1, al, Out.P_mono (Out.P_bind.mp q) (fun ds k G2 H2 vs e2 ar => k G2 H2 (v :: vs) (e1.trans e2) (mk G2 H2 vs ds e2 (ar.back e1))) fun _ z => EX.ext e1 z⟩
theorem cq_pe {σ : L2.St} {H : Hp} {R : List V → Hp → Prop} {a : Ag} {as : List Ag} (h : Ags X W (e :: es) (a :: as)) : ∃ te, PE X e te ∧ ∀ σ H R, upCQ X.K W (a :: as) σ H R → te σ H fun v H1 => upCQ X.K W as σ H1 fun vs H' => R (v :: vs) H' := by
  cases h with
  | q h t hs =>
    refine ⟨_, h, fun σ H R ⟨G, B, Bv, As, ρ, ρv, hs, so, sv, al, q⟩ => ?_⟩
    cases hs with
    | nil => exact q.elim
    | cons z hs =>
      refine ⟨G, Bv, As, ρv, sv, exP_P (Out.P_mono (Out.P_bind.mp q) (fun d q1 G1 H1 v e1 hd fr => ?_) fun _ z => z)⟩
      obtain ⟨hf, q1⟩ := Out.P_ifn q1
      exact cq_step so sv (by simpa [Al] using al) e1 q1 fun G2 H2 vs ds e2 ar => .q (Dt.ext e2 hd) (Fresh.on fr hd e2) hf ar
  | s h t hs =>
    refine ⟨_, h, fun σ H R ⟨G, B, Bv, As, ρ, ρv, hs, so, sv, al, q⟩ => ?_⟩
    cases hs with
    | nil => exact q.elim
    | cons z hs =>
      refine ⟨G, B, As, ρ, so, Out.P_mono (Out.P_bind.mp q) (fun d q1 G1 H1 v e1 hd fr => ?_) fun _ z => z⟩
      obtain ⟨hf, q1⟩ := Out.P_ifn q1
      exact cq_step so sv (by simpa [Al] using al) e1 q1 fun G2 H2 vs ds e2 ar => .s (Dt.ext e2 hd) (Fresh.on fr hd e2) hf ar
  | k h t hs =>
    refine ⟨_, h, fun σ H R ⟨G, B, Bv, As, ρ, ρv, hs, so, sv, al, q⟩ => ?_⟩
    cases hs with
    | nil => exact q.elim
    | cons z hs =>
      refine ⟨G, B, As, ρ, so, Out.P_mono (Out.P_bind.mp q) (fun d q1 G1 H1 v e1 hd fr => ?_) fun _ z => z⟩
      obtain ⟨hf, q1⟩ := Out.P_ifn q1
      exact cq_step so sv (by simpa [Al] using al) e1 q1 fun G2 H2 vs ds e2 ar => .k (Dt.ext e2 hd) (Fresh.on fr hd e2) hf ar
  | m i t hN hv hd hcd hs =>
    refine ⟨_, pe_var hN hv hd hcd, fun σ H R ⟨G, B, Bv, As, ρ, ρv, hs, so, sv, al, q⟩ => ?_⟩
    cases hs with
    | nil => exact q.elim
    | cons z hs =>
      cases z with
      | none => exact q.elim
      | some z =>
        obtain ⟨l, d⟩ := z
        obtain ⟨nb, q1⟩ := Out.P_ifn q
        obtain ⟨⟨v, hv⟩, al⟩ := al
        exact ⟨v, hv, cq_step so sv al (Ext.refl so.gh) q1 fun G2 H2 vs ds e2 ar => .m hv nb ar⟩
theorem cq_pa : ∀ {es : List Expr} {as : List Ag}, Ags X W es as → PA X es (upCQ X.K W as)
  | _, _, .nil => paI pa_nil fun σ H R ⟨G, B, Bv, As, ρ, ρv, hs, so, sv, al, q⟩ => q G H [] (Ext.refl so.gh) .nil
  | _, _, .q h t hs => by
    obtain ⟨te, h1, h2⟩ := cq_pe (σ := []) (H := fun _ => none) (R := fun _ _ => True) (.q h t hs)
    exact paI (pa_cons h1 (cq_pa t) hs) h2
  | _, _, .s h t hs => by
    obtain ⟨te, h1, h2⟩ := cq_pe (σ := []) (H := fun _ => none) (R := fun _ _ => True) (.s h t hs)
    exact paI (pa_cons h1 (cq_pa t) hs) h2
  | _, _, .k h t hs => by
    obtain ⟨te, h1, h2⟩ := cq_pe (σ := []) (H := fun _ => none) (R := fun _ _ => True) (.k h t hs)
    exact paI (pa_cons h1 (cq_pa t) hs) h2
  | _, _, .m i t hN hv hd hcd hs => by
    obtain ⟨te, h1, h2⟩ := cq_pe (σ := []) (H := fun _ => none) (R := fun _ _ => True) (.m i t hN hv hd hcd hs)
    exact paI (pa_cons h1 (cq_pa t) hs) h2
end
theorem free_S {K : PySem.W.Frag} {G B H H0 : Hp} {S : List Addr} {v : V} {d : D} (hd : Dat K G B H S v d) (fr : Fresh H0 G v d) (hf : d.free = true) : ∀ a ∈ S, H0 a = none := fun a m => by
  by_cases ho : d.old
  · rw [free_id ho] at hf
    have := hd.noS hf
    subst this
    cases m
  · have hr : d.root = some .new := by simpa using ho
    obtain ⟨p, rfl, h1, h2⟩ := fr hr
    have key : ∀ {U : List Addr}, U = [] → a ∈ Fl.ad .new p ++ U → H0 a = none := fun {U} e q => by
      subst e
      have : a = p := by simpa [Fl.ad] using q
      subst this; exact h1
    cases d with
    | lst f xs => cases hr; cases hd with | lst n hs => exact key (Dats.noS hs (by simpa only [D.free] using hf)) m
    | dic f xs => cases hr; cases hd with | dic n hs => exact key (DatM.noS hs (by simpa only [D.free] using hf)) m
    | dit f xs => cases hr; cases hd with | dit n hs => exact key (DatM.noS hs (by simpa only [D.free] using hf)) m
    | din f xs => cases hr; cases hd with | din hw n hk eq => exact key rfl m
    | obj f C xs => cases hr; cases hd with | obj n hs => exact key (DatM.noS hs (by simpa only [D.free] using hf)) m
    | _ => cases hr
theorem al_of {K : PySem.W.Frag} {G B Φ H : Hp} {As : List V} {S S' : Pi → List Addr} {σ : L2.St} {ρ0 : Plc} {Sa : Nat → List Addr} : ∀ (n : Nat) (as : List Ag) (hs : List (Option (Lc × D))), (∀ (j i : Nat), (as.map Ag.sl)[j]? = some (some i) → ∃ v, σ[i]? = some (some v)) → Al σ as hs
  | n, [], hs, _ => by cases hs <;> trivial
  | n, a :: as, [], _ => by cases a <;> trivial
  | n, a :: as, h :: hs, k => by
    have ih := al_of (K := K) (G := G) (B := B) (Φ := Φ) (H := H) (As := As) (S := S) (S' := S') (ρ0 := ρ0) (Sa := Sa) (n + 1) as hs fun j i e => k (j + 1) i (by simpa using e)
    cases a with
    | m i => cases h with
      | none => exact ih
      | some z => exact ⟨k 0 i rfl, ih⟩
    | _ => cases h <;> exact ih
/-- read and taken -/
theorem args_rdy {K : PySem.W.Frag} {G B Φ H G' H' : Hp} {As : List V} {S S' : Pi → List Addr} {σ : L2.St} {ρ0 : Plc} {Sa : Nat → List Addr} {as : List Ag} {hs : List (Option (Lc × D))} {vs : List V} {es : List D} (t : Taken K G B Φ H As S σ (as.map Ag.sl) hs ρ0 S' Sa) (e : Ext G H G' H')
    (ar : ArgsR K G' B (less G (fun a => ∃ j, a ∈ Sa j) H) H H' σ as hs vs es) : Rdy K (grab H G' H') B Φ H' As S' σ ρ0 (as.map Ag.md) Sa vs es (hs.map (Option.map Prod.fst)) := by
  obtain ⟨e2, s2⟩ := grab_ext e
  have tT : ∀ a, (∃ j, a ∈ Sa j) → G a = none ∧ ∃ o, H a = some o := fun a ⟨j, m⟩ => ⟨((t.tok j).2 a m).2.1, let ⟨o, h, _⟩ := ((t.tok j).2 a m).2.2.2; ⟨o, h⟩⟩
  have hG : ∀ a o, G' a = some o → ¬ ∃ j, a ∈ Sa j := fun a o z y => by
    obtain ⟨g1, u, g2⟩ := tT a y
    rcases e.new a o z with w | w
    · rw [g1] at w; cases w
    · rw [g2] at w; cases w
  have hG2 : ∀ a o, grab H G' H' a = some o → ¬ ∃ j, a ∈ Sa j := fun a o z y => by
    obtain ⟨g1, u, g2⟩ := tT a y
    rcases e2.new a o z with w | w
    · rw [g1] at w; cases w
    · rw [g2] at w; cases w
  have key : ∀ {as' : List Ag} {hs' : List (Option (Lc × D))} {vs' : List V} {es' : List D} (n : Nat), (∀ j, as'[j]? = as[n + j]?) → (∀ j, hs'[j]? = hs[n + j]?) → ArgsR K G' B (less G (fun a => ∃ j, a ∈ Sa j) H) H H' σ as' hs' vs' es' → vs'.length = as'.length ∧ es'.length = as'.length ∧
      ∀ (j : Nat) (a : Ag) (v : V) (d : D), as'[j]? = some a → vs'[j]? = some v → es'[j]? = some d → (Dat K (grab H G' H') (less (grab H G' H') (fun a => ∃ j, a ∈ Sa j) H') H' (Sa (n + j)) v d ∧ MOk a.md (Sa (n + j)) d) ∧ ∀ i, a = .m i → σ[i]? = some (some v) := by
    intro as'
    induction as' with
    | nil => intro hs' vs' es' n ha hh ar; cases ar; exact ⟨rfl, rfl, fun j a v d z => by simp at z⟩
    | cons a as' ih =>
      intro hs' vs' es' n ha hh ar
      have em : (∀ i, a.sl ≠ some i) → Sa n = [] := fun z => t.emp n fun i q => by
        have := ha 0
        simp at this
        rw [List.getElem?_map, ← this] at q
        simp at q
        exact z i q
      have fin : ∀ {h : Option (Lc × D)} {hs'' : List (Option (Lc × D))} {v : V} {vs'' : List V} {d : D} {ds : List D}, hs' = h :: hs'' → ArgsR K G' B (less G (fun a => ∃ j, a ∈ Sa j) H) H H' σ as' hs'' vs'' ds → ((Dat K (grab H G' H') (less (grab H G' H') (fun a => ∃ j, a ∈ Sa j) H') H' (Sa n) v d ∧ MOk a.md (Sa n) d) ∧ ∀ i, a = .m i → σ[i]? = some (some v)) →
          (v :: vs'').length = (a :: as').length ∧ (d :: ds).length = (a :: as').length ∧ ∀ (j : Nat) (a' : Ag) (v' : V) (d' : D), (a :: as')[j]? = some a' → (v :: vs'')[j]? = some v' → (d :: ds)[j]? = some d' → (Dat K (grab H G' H') (less (grab H G' H') (fun a => ∃ j, a ∈ Sa j) H') H' (Sa (n + j)) v' d' ∧ MOk a'.md (Sa (n + j)) d') ∧ ∀ i, a' = .m i → σ[i]? = some (some v') := fun {h hs'' v vs'' d ds} eh tl hd => by
        subst eh
        obtain ⟨i1, i2, i3⟩ := ih (n + 1) (fun j => by have := ha (j + 1); simp at this; rw [this]; congr 1; omega) (fun j => by have := hh (j + 1); simp at this; rw [this]; congr 1; omega) tl
        refine ⟨by simp [i1], by simp [i2], fun j a' v' d' h1 h2 h3 => ?_⟩
        cases j with
        | zero => simp at h1 h2 h3; subst h1 h2 h3; exact hd
        | succ j =>
          have := i3 j a' v' d' (by simpa using h1) (by simpa using h2) (by simpa using h3)
          rwa [show n + 1 + j = n + (j + 1) by omega] at this
      cases ar with
      | q hd fr hf tl =>
        refine fin rfl tl ⟨?_, fun i z => by cases z⟩
        rw [em (fun i z => by cases z)]
        obtain ⟨U, hd⟩ := hd
        refine ⟨dat_view s2 e2.gh ((SmN.of fun a o z => (less_of z).1).trans e.h) (fun a m y => ?_) (fun a o z => (less_of z).2.2) hG hd, rfl, view_lent _⟩
        obtain ⟨_, u, g2⟩ := tT a y
        rw [free_S hd fr hf a m] at g2; cases g2
      | s hd fr hk tl =>
        refine fin rfl tl ⟨?_, fun i z => by cases z⟩
        rw [em (fun i z => by cases z)]
        obtain ⟨U, hS⟩ := st_dt e hd fr
        have := hS.noS (kept_noOwn hk)
        subst this
        have hS2 : Dat K (grab H G' H') (less (grab H G' H') (fun a => ∃ j, a ∈ Sa j) H') H' [] _ _ := hS.anyB (kept_noBor hk)
        exact ⟨dat_view (fun _ _ q => q) e2.gh (.of fun a o z => (less_of z).1) (fun a m => by cases m) (fun a o z => (less_of z).2.2) hG2 hS2, rfl, view_lent _⟩
      | k hd fr hk tl =>
        refine fin rfl tl ⟨?_, fun i z => by cases z⟩
        rw [em (fun i z => by cases z)]
        obtain ⟨U, hS⟩ := st_dt e hd fr
        have := hS.noS (kept_noOwn hk)
        subst this
        exact ⟨hS.anyB (kept_noBor hk), rfl, hk⟩
      | @m i _ l d _ v _ _ hv nb tl =>
        refine fin rfl tl ⟨?_, fun j z => by cases z; exact hv⟩
        have h1 := ha 0
        have h2 := hh 0
        simp at h1 h2
        obtain ⟨l', d', v', a1, a2, a3, a4, a5⟩ := t.som n i (by rw [List.getElem?_map, ← h1]; rfl)
        rw [← h2] at a1
        cases a1
        rw [hv] at a2
        cases a2
        exact ⟨(a5.mono e2.g (fun _ _ q => q) (On.of e2.h)).anyB nb, a4, nb⟩
  obtain ⟨k1, k2, k3⟩ := key 0 (fun j => by rw [Nat.zero_add]) (fun j => by rw [Nat.zero_add]) ar
  refine ⟨t.rep.ext e2, fun j => (t.tok j).ext e2 fun _ _ m => m, t.dj, by simp [k1], by simp [k2], fun j md v d h1 h2 h3 => ?_, fun j l h => ?_⟩
  · rw [List.getElem?_map] at h1
    cases ha : as[j]? with
    | none => rw [ha] at h1; cases h1
    | some a =>
      rw [ha] at h1
      cases h1
      have := (k3 j a v d ha h2 h3).1
      rwa [Nat.zero_add] at this
  · rw [List.getElem?_map] at h
    cases hh : hs[j]? with
    | none => rw [hh] at h; cases h
    | some z =>
      rw [hh] at h
      cases z with
      | none => cases h
      | some z =>
        obtain ⟨l', d⟩ := z
        cases h
        have hl : j < as.length := by
          have := (List.getElem?_eq_some_iff.mp hh).1
          rw [t.len] at this
          simpa using this
        have ha : as[j]? = some as[j] := by simp [hl]
        cases hc : as[j] with
        | m i =>
          rw [hc] at ha
          obtain ⟨l2, d2, v2, a1, a2, a3, a4, a5⟩ := t.som j i (by rw [List.getElem?_map, ha]; rfl)
          rw [hh] at a1
          cases a1
          refine ⟨by rw [List.getElem?_map, ha]; rfl, fun v hv => ?_⟩
          have he : es[j]? = some (es[j]'(by rw [k2]; exact hl)) := by simp [k2, hl]
          have := (k3 j _ v _ ha hv he).2 i rfl
          rw [a2] at this
          cases this
          exact a3
        | _ =>
          rw [hc] at ha
          have := t.non j (by rw [List.getElem?_map, ha]; rfl)
          rw [hh] at this; cases this
section
variable {X : Cx} {W : WX} {e o : Expr} {es : List Expr} {as : List Ag} {a : Ag} {C : Addr} {m : Str}
theorem faQ_up {K : PySem.W.Frag} {σ : L2.St} {H : Hp} {R : List V → Hp → Prop} (h : upAr K W (as.map Ag.md) (faQ as) σ H R) : upCQ K W as σ H R := by
  obtain ⟨G, B, Φ, As, S, ρ, r, q⟩ := h
  unfold faQ at q
  cases ht : takeH (as.map Ag.sl) ρ with
  | none => rw [ht] at q; exact q.elim
  | some x =>
    obtain ⟨hs, ρ0⟩ := x
    rw [ht] at q
    simp only at q
    obtain ⟨S', Sa, t⟩ := take_ok r ht
    have sv := t.rep.lend (T := fun a => ∃ j, a ∈ Sa j) (fun i a m ⟨j, z⟩ => ((t.tok j).2 a z).1 i m) (fun a ⟨j, z⟩ => ⟨((t.tok j).2 a z).2.2.1, ((t.tok j).2 a z).2.1⟩)
    refine ⟨G, B, _, As, ρ, ρ0.view, hs, r.so, sv, al_of (K := K) (G := G) (B := B) (Φ := Φ) (H := H) (As := As) (S := S) (S' := S') (ρ0 := ρ0) (Sa := Sa) 0 as hs (fun j i z => ?_), ?_⟩
    · obtain ⟨l, d, v, _, h2, _⟩ := t.som j i z
      exact ⟨v, h2⟩
    · cases he : evalA as hs ρ ρ0.view with
      | no => rw [he] at q; exact q.elim
      | ex x => rw [he] at q; exact EX.of r q
      | ok ds =>
        rw [he] at q
        exact fun G' H' vs e ar => q _ H' S' Sa vs (grab_ext e).1.g (args_rdy t e ar)
theorem ca_q (h : Ags X W es as) : CA X W es (as.map Ag.md) (faQ as) := paI (cq_pa h) fun σ H R q => faQ_up q
/-- the receiver is of the class -/
noncomputable def hdOk (C : Addr) (m : Str) : Ag → Plc → Plc → Bool
  | .q f, _, ρv => match exP (f ρv) with
    | .ok d => isObj C m d
    | .ex _ => true
    | .no => false
  | .m i, ρ, _ => match look ρ i with
    | some d => isObj C m d
    | none => false
  | _, _, _ => false
noncomputable def fmQ (C : Addr) (m : Str) (as : List Ag) : FAr := fun ρ => match as, takeH (as.map Ag.sl) ρ with
  | a :: _, some (_, ρ0) => if hdOk C m a ρ ρ0.view = true then faQ as ρ else .no
  | _, _ => .no
theorem Out.P_and {ε α : Type} {o : Out ε α} {P Q : α → Prop} {E : ε → Prop} (h : o.P P E) (q : ∀ a, o = .ok a → Q a) : o.P (fun a => P a ∧ Q a) E := by
  cases o with
  | ok a => exact ⟨h, q a rfl⟩
  | ex e => exact h
  | no => exact h
noncomputable def upCQH (K : PySem.W.Frag) (W : WX) (C : Addr) (m : Str) (a : Ag) (as : List Ag) : TA := fun σ H R => ∃ (G B Bv : Hp) (As : List V) (ρ ρv : Plc) (hs : List (Option (Lc × D))), SOk K G B H As σ ρ ∧ SOk K G Bv H As σ ρv ∧ Al σ (a :: as) hs ∧ hdOk C m a ρ ρv = true ∧
  (evalA (a :: as) hs ρ ρv).P (fun es => ∀ G' H' vs, Ext G H G' H' → ArgsR K G' B Bv H H' σ (a :: as) hs vs es → R vs H') (EX K W G B H σ)
theorem cq_head (h : Ags X W (o :: es) (a :: as)) : ∃ te, PE X o te ∧ ∀ σ H R, upCQH X.K W C m a as σ H R → ∀ k : V → Hp → Prop, (∀ x H1, (upCQ X.K W as σ H1 fun vs H2 => R (x :: vs) H2) → k x H1) → te σ H fun x H1 => ∃ p dx fs, x = .ref p ∧ H1 p = some (.ins C dx fs) ∧ fs.lookup m = none ∧ k x H1 := by
  cases h with
  | @q _ _ f _ h t hs =>
    refine ⟨_, h, fun σ H R ⟨G, B, Bv, As, ρ, ρv, hs, so, sv, al, hd0, q⟩ kk hkk => ?_⟩
    cases hs with
    | nil => exact q.elim
    | cons z hs =>
      have q2 := exP_P (B' := Bv) (Out.P_and (Out.P_bind.mp q) (Q := fun d => isObj C m d = true) fun d e => by simpa [hdOk, e] using hd0)
      refine ⟨G, Bv, As, ρv, sv, Out.P_mono q2 (fun d ⟨q1, ob⟩ G1 H1 v e1 hd fr => ?_) fun _ z => z⟩
      obtain ⟨hf, q1⟩ := Out.P_ifn q1
      obtain ⟨p, dx, fs, rfl, h1, h2⟩ := is_obj e1.gh (sv.ext e1).bh hd ob
      exact ⟨p, dx, fs, rfl, h1, h2, hkk _ _ (cq_step so sv (by simpa [Al] using al) e1 q1 fun G2 H2 vs ds e2 ar => .q (Dt.ext e2 hd) (Fresh.on fr hd e2) hf ar)⟩
  | s h t hs => exact ⟨_, h, fun σ H R ⟨_, _, _, _, _, _, _, _, _, _, z, _⟩ _ _ => by cases z⟩
  | k h t hs => exact ⟨_, h, fun σ H R ⟨_, _, _, _, _, _, _, _, _, _, z, _⟩ _ _ => by cases z⟩
  | m i t hN hv hd hcd hs =>
    refine ⟨_, pe_var hN hv hd hcd, fun σ H R ⟨G, B, Bv, As, ρ, ρv, hs, so, sv, al, hd0, q⟩ kk hkk => ?_⟩
    cases hs with
    | nil => exact q.elim
    | cons z hs =>
      cases z with
      | none => exact q.elim
      | some z =>
        obtain ⟨l, d⟩ := z
        obtain ⟨nb, q1⟩ := Out.P_ifn q
        obtain ⟨⟨v, hv⟩, al⟩ := al
        simp only [hdOk] at hd0
        cases hl : look ρ i with
        | none => rw [hl] at hd0; cases hd0
        | some d' =>
          rw [hl] at hd0
          obtain ⟨_, v', h3, h4⟩ := so.look hl
          rw [hv] at h3
          cases h3
          obtain ⟨p, dx, fs, rfl, h1, h2⟩ := is_obj so.gh so.bh h4 hd0
          exact ⟨_, hv, p, dx, fs, rfl, h1, h2, hkk _ _ (cq_step so sv al (Ext.refl so.gh) q1 fun G2 H2 vs ds e2 ar => .m hv nb ar)⟩
theorem fmQ_up {K : PySem.W.Frag} {σ : L2.St} {H : Hp} {R : List V → Hp → Prop} (h : upAr K W ((a :: as).map Ag.md) (fmQ C m (a :: as)) σ H R) : upCQH K W C m a as σ H R := by
  obtain ⟨G, B, Φ, As, S, ρ, r, q⟩ := h
  unfold fmQ at q
  cases ht : takeH ((a :: as).map Ag.sl) ρ with
  | none => rw [ht] at q; exact q.elim
  | some x =>
    obtain ⟨hs, ρ0⟩ := x
    rw [ht] at q
    obtain ⟨ho, q⟩ := Out.P_ifn q
    unfold faQ at q
    rw [ht] at q
    simp only at q
    obtain ⟨S', Sa, t⟩ := take_ok r ht
    have sv := t.rep.lend (T := fun a => ∃ j, a ∈ Sa j) (fun i a m ⟨j, z⟩ => ((t.tok j).2 a z).1 i m) (fun a ⟨j, z⟩ => ⟨((t.tok j).2 a z).2.2.1, ((t.tok j).2 a z).2.1⟩)
    refine ⟨G, B, _, As, ρ, ρ0.view, hs, r.so, sv, al_of (K := K) (G := G) (B := B) (Φ := Φ) (H := H) (As := As) (S := S) (S' := S') (ρ0 := ρ0) (Sa := Sa) 0 _ hs (fun j i z => ?_), ho, ?_⟩
    · obtain ⟨l, d, v, _, h2, _⟩ := t.som j i z
      exact ⟨v, h2⟩
    · cases he : evalA (a :: as) hs ρ ρ0.view with
      | no => rw [he] at q; exact q.elim
      | ex x => rw [he] at q; exact EX.of r q
      | ok ds =>
        rw [he] at q
        exact fun G' H' vs e ar => q _ H' S' Sa vs (grab_ext e).1.g (args_rdy t e ar)
theorem Ags.tail (h : Ags X W (o :: es) (a :: as)) : Ags X W es as := by cases h <;> assumption
theorem cm0_q (h : Ags X W [o] [a]) : CM0 X W C m o [a.md] (fmQ C m [a]) := by
  obtain ⟨te, h1, h2⟩ := cq_head (C := C) (m := m) h
  refine ⟨te, h1, fun σ H R q => h2 σ H R (fmQ_up q) _ fun x H1 z => ?_⟩
  obtain ⟨G, B, Bv, As, ρ, ρv, hs, so, sv, al, q⟩ := z
  exact q G H1 [] (Ext.refl so.gh) .nil
end
end VL

/-! VLu: arguments that change things themselves; instances made. -/
namespace VL
open PySem PySem.Spec PyProof.Rows L2
variable [LamT]

inductive Gg where
  | r (i : Nat) | m (i : Nat) | g (ga : FG) | k (ga : FG)
noncomputable def Gg.md : Gg → Md
  | .r _ => .r
  | .g _ => .r
  | .k _ => .k
  | .m _ => .m
noncomputable def Gg.sl : Gg → Option Nat
  | .m i => some i
  | _ => none
inductive ArgsG (K : PySem.W.Frag) (G B H : Hp) (σ : L2.St) : List Gg → List V → List (Option D) → Prop
  | nil : ArgsG K G B H σ [] [] []
  | r {i : Nat} {v : V} {as : List Gg} {vs : List V} {ds : List (Option D)} (hv : σ[i]? = some (some v)) (t : ArgsG K G B H σ as vs ds) : ArgsG K G B H σ (.r i :: as) (v :: vs) (none :: ds)
  | m {i : Nat} {v : V} {as : List Gg} {vs : List V} {ds : List (Option D)} (hv : σ[i]? = some (some v)) (t : ArgsG K G B H σ as vs ds) : ArgsG K G B H σ (.m i :: as) (v :: vs) (none :: ds)
  | g {ga : FG} {v : V} {d : D} {as : List Gg} {vs : List V} {ds : List (Option D)} (hd : Dat K G B H [] v d) (t : ArgsG K G B H σ as vs ds) : ArgsG K G B H σ (.g ga :: as) (v :: vs) (some d :: ds)
  | k {ga : FG} {v : V} {d : D} {as : List Gg} {vs : List V} {ds : List (Option D)} (hd : Dat K G B H [] v d) (t : ArgsG K G B H σ as vs ds) : ArgsG K G B H σ (.k ga :: as) (v :: vs) (some d :: ds)
inductive Ggs (X : Cx) (W : WX) : List Expr → List Gg → Prop
  | nil : Ggs X W [] []
  | g {e : Expr} {es : List Expr} {f : FG} {as : List Gg} (h : GE X W e f) (t : Ggs X W es as) (hs : starEach (e :: es) X.env = (false, eval e X.env) :: starEach es X.env := by rfl) : Ggs X W (e :: es) (.g f :: as)
  | k {e : Expr} {es : List Expr} {f : FG} {as : List Gg} (h : GE X W e f) (t : Ggs X W es as) (hs : starEach (e :: es) X.env = (false, eval e X.env) :: starEach es X.env := by rfl) : Ggs X W (e :: es) (.k f :: as)
  | m {x : Str} {pos : Pos} {es : List Expr} {as : List Gg} (i : Nat) (t : Ggs X W es as) (hN : X.N[i]? = some x := by rfl) (hv : Vis X.env.scope x := by first | exact Or.inl rfl | exact Or.inr (Or.inl rfl) | exact Or.inr (Or.inr rfl)) (hd : (x == ("__debug__" : Str)) = false := by decide) (hcd : (x == ("__classdict__" : Str)) = false := by decide)
    (hs : starEach (.Name x pos :: es) X.env = (false, eval (.Name x pos) X.env) :: starEach es X.env := by rfl) : Ggs X W (.Name x pos :: es) (.m i :: as)
  | r {x : Str} {pos : Pos} {es : List Expr} {as : List Gg} (i : Nat) (t : Ggs X W es as) (hN : X.N[i]? = some x := by rfl) (hv : Vis X.env.scope x := by first | exact Or.inl rfl | exact Or.inr (Or.inl rfl) | exact Or.inr (Or.inr rfl)) (hd : (x == ("__debug__" : Str)) = false := by decide) (hcd : (x == ("__classdict__" : Str)) = false := by decide)
    (hs : starEach (.Name x pos :: es) X.env = (false, eval (.Name x pos) X.env) :: starEach es X.env := by rfl) : Ggs X W (.Name x pos :: es) (.r i :: as)
section
variable {X : Cx} {W : WX} {e o : Expr} {es : List Expr} {as : List Gg} {a : Gg} {C : Addr} {m : Str}
theorem Ggs.tail (h : Ggs X W (o :: es) (a :: as)) : Ggs X W es as := by cases h <;> assumption
end
end VL

/-! VLv: a tree within a tree; paths. -/
namespace VL
open PySem PySem.Spec PyProof.Rows L2
variable [LamT]

/-- w with its tree e stands within v with its tree d; another tree at w makes the whole `put` of it -/
structure Zip (K : PySem.W.Frag) (G B H : Hp) (S : List Addr) (v : V) (w : V) (e : D) (put : D → D) : Prop where
  ex : ∃ S1 S2, S.Perm (S1 ++ S2) ∧ Dat K G B H S1 w e ∧ e.old ∧ ∀ (G' B' H' : Hp) (T : List Addr) (e' : D), Same G G' → Same B B' → On S2 H H' → Dat K G' B' H' T w e' → e'.old → (put e').old ∧ ∃ S', S'.Perm (T ++ S2) ∧ Dat K G' B' H' S' v (put e')
theorem Zip.refl {K : PySem.W.Frag} {G B H : Hp} {S : List Addr} {v : V} {d : D} (h : Dat K G B H S v d) (n : d.old) : Zip K G B H S v v d id :=
  ⟨S, [], by simp, h, n, fun G' B' H' T e' _ _ _ h' n' => ⟨n', T, by simp, h'⟩⟩
theorem Zip.trans {K : PySem.W.Frag} {G B H : Hp} {S S1 S2 : List Addr} {v w u : V} {e2 : D} {p1 p2 : D → D} (hp : S.Perm (S1 ++ S2)) (k : ∀ (G' B' H' : Hp) (T : List Addr) (e' : D), Same G G' → Same B B' → On S2 H H' → Dat K G' B' H' T w e' → e'.old → (p1 e').old ∧ ∃ S', S'.Perm (T ++ S2) ∧ Dat K G' B' H' S' v (p1 e')) (b : Zip K G B H S1 w u e2 p2) : Zip K G B H S v u e2 (p1 ∘ p2) := by
  obtain ⟨U1, U2, hp2, hd2, n2, k2⟩ := b.ex
  refine ⟨U1, U2 ++ S2, ?_, hd2, n2, fun G' B' H' T e' g bb on h' n' => ?_⟩
  · have := hp.trans (hp2.append_right S2)
    rwa [List.append_assoc] at this
  · obtain ⟨m1, T1, q1, h1⟩ := k2 G' B' H' T e' g bb on.l h' n'
    obtain ⟨m2, T2, q2, h2⟩ := k G' B' H' T1 _ g bb on.r h1 m1
    refine ⟨m2, T2, ?_, h2⟩
    have := q2.trans (q1.append_right S2)
    rwa [List.append_assoc] at this
theorem Zip.ext {K : PySem.W.Frag} {G B H G1 H1 : Hp} {S : List Addr} {v w : V} {e : D} {p : D → D} (x : Ext G H G1 H1) (z : Zip K G B H S v w e p) : Zip K G1 B H1 S v w e p := by
  obtain ⟨S1, S2, hp, hd, n, k⟩ := z.ex
  exact ⟨S1, S2, hp, hd.mono x.g (fun _ _ q => q) (On.of x.h), n, fun G' B' H' T e' g bb on h' n' => k G' B' H' T e' (x.g.trans g) bb (fun a m o q nt => on a m o (x.h a o q nt) nt) h' n'⟩
section
variable {K : PySem.W.Frag} {G B H : Hp}
/-- an element of a list -/
theorem zipL : ∀ {S : List Addr} {vs : List V} {ds : List D} {j : Nat} {e : D}, Dats K G B H S vs ds → ds[j]? = some e → ∃ w S1 S2, vs[j]? = some w ∧ S.Perm (S1 ++ S2) ∧ Dat K G B H S1 w e ∧ e.old ∧
    ∀ (G' B' H' : Hp) (T : List Addr) (e' : D), Same G G' → Same B B' → On S2 H H' → Dat K G' B' H' T w e' → e'.old → ∃ S', S'.Perm (T ++ S2) ∧ Dats K G' B' H' S' vs (ds.set j e')
  | _, _, _, j, e, .nil, h => by simp at h
  | _, _, _, 0, e, .cons (S := S0) (T := T0) n hd t, h => by
    simp at h
    subst h
    exact ⟨_, S0, T0, rfl, .refl _, hd, n, fun G' B' H' T e' g b on h' n' => ⟨T ++ T0, .refl _, .cons n' h' (t.mono g b on)⟩⟩
  | _, _, _, j + 1, e, .cons (S := S0) (T := T0) n hd t, h => by
    obtain ⟨w, S1, S2, h1, h2, h3, h4, k⟩ := zipL t (by simpa using h)
    refine ⟨w, S1, S0 ++ S2, by simpa using h1, ?_, h3, h4, fun G' B' H' T e' g b on h' n' => ?_⟩
    · exact (h2.append_left S0).trans (List.perm_append_comm_assoc _ _ _)
    · obtain ⟨S', q, r⟩ := k G' B' H' T e' g b on.r h' n'
      exact ⟨S0 ++ S', (q.append_left S0).trans (List.perm_append_comm_assoc _ _ _), .cons n (hd.mono g b on.l) r⟩
noncomputable def setK : List (Kd × D) → Kd → D → List (Kd × D)
  | [], _, _ => []
  | (k', d) :: r, k, e => if k' = k then (k', e) :: r else (k', d) :: setK r k e
noncomputable def getKV : List (Kd × V) → Kd → Option V
  | [], _ => none
  | (k', d) :: r, k => if k' = k then some d else getKV r k
theorem zipM : ∀ {S : List Addr} {vs : List (Kd × V)} {ds : List (Kd × D)} {k : Kd} {e : D}, DatM K G B H S vs ds → getK ds k = some e → ∃ w S1 S2, getKV vs k = some w ∧ S.Perm (S1 ++ S2) ∧ Dat K G B H S1 w e ∧ e.old ∧
    ∀ (G' B' H' : Hp) (T : List Addr) (e' : D), Same G G' → Same B B' → On S2 H H' → Dat K G' B' H' T w e' → e'.old → ∃ S', S'.Perm (T ++ S2) ∧ DatM K G' B' H' S' vs (setK ds k e')
  | _, _, _, k, e, .nil, h => by simp [getK] at h
  | _, _, _, k, e, .cons (S := S0) (T := T0) (k := k0) n hd t, h => by
    rw [getK] at h
    by_cases hk : k0 = k
    · rw [if_pos hk] at h
      cases h
      refine ⟨_, S0, T0, by rw [getKV, if_pos hk], .refl _, hd, n, fun G' B' H' T e' g b on h' n' => ⟨T ++ T0, .refl _, ?_⟩⟩
      rw [setK, if_pos hk]
      exact .cons n' h' (t.mono g b on)
    · rw [if_neg hk] at h
      obtain ⟨w, S1, S2, h1, h2, h3, h4, kk⟩ := zipM t h
      refine ⟨w, S1, S0 ++ S2, by rw [getKV, if_neg hk]; exact h1, (h2.append_left S0).trans (List.perm_append_comm_assoc _ _ _), h3, h4, fun G' B' H' T e' g b on h' n' => ?_⟩
      obtain ⟨S', q, r⟩ := kk G' B' H' T e' g b on.r h' n'
      refine ⟨S0 ++ S', (q.append_left S0).trans (List.perm_append_comm_assoc _ _ _), ?_⟩
      rw [setK, if_neg hk]
      exact .cons n (hd.mono g b on.l) r
theorem getKV_K {f : Key} {w : V} : ∀ {vs : List (Key × V)}, getKV (vs.map kK) (.k f) = some w → valV vs f = some w
  | [], h => by cases h
  | (k, v) :: vs, h => by
    rw [List.map_cons, show kK (k, v) = (.k k, v) from rfl, getKV] at h
    by_cases e : k = f
    · subst e
      rw [if_pos rfl] at h
      cases h
      exact valV_pos rfl
    · rw [if_neg (by simpa using e)] at h
      rw [valV_neg e]
      exact getKV_K h
theorem getKV_T {f : List Key} {w : V} : ∀ {vs : List (List Key × V)}, getKV (vs.map kT) (.t f) = some w → valV vs f = some w
  | [], h => by cases h
  | (k, v) :: vs, h => by
    rw [List.map_cons, show kT (k, v) = (.t k, v) from rfl, getKV] at h
    by_cases e : k = f
    · subst e
      rw [if_pos rfl] at h
      cases h
      exact valV_pos rfl
    · rw [if_neg (by simpa using e)] at h
      rw [valV_neg e]
      exact getKV_T h
theorem on_ad {f : Fl} {p : Addr} {S2 : List Addr} {H H' : Hp} (h : On (f.ad p ++ S2) H H') : On (f.ad p ++ []) H H' := fun a m => h a (by simp at m; simp [m])
/-- an element -/
theorem zip_lst {S : List Addr} {v : V} {fl : Fl} {ds : List D} {j : Nat} {e : D} (h : Dat K G B H S v (.lst fl ds)) (n : (D.lst fl ds).old) (hf : fl ≠ .loc) (hk : ds[j]? = some e) : ∃ p vs w, v = .ref p ∧ Nd G B H fl p (.lst vs) ∧ vs.length = ds.length ∧ vs[j]? = some w ∧ Zip K G B H S v w e fun e' => .lst fl (ds.set j e') := by
  cases h with
  | lok _ _ => exact absurd rfl hf
  | @lst U _ p vs _ nd hs =>
    obtain ⟨w, S1, S2, h1, h2, h3, h4, k⟩ := zipL hs hk
    refine ⟨p, vs, w, rfl, nd, hs.length, h1, S1, fl.ad p ++ S2, (h2.append_left _).trans (List.perm_append_comm_assoc _ _ _), h3, h4, fun G' B' H' T e' g b on h' n' => ⟨?_, ?_⟩⟩
    · simpa [D.root] using n
    · obtain ⟨S', q, r⟩ := k G' B' H' T e' g b on.r h' n'
      exact ⟨fl.ad p ++ S', (q.append_left _).trans (List.perm_append_comm_assoc _ _ _), .lst (nd.mono g b (on_ad on) trivial) r⟩
theorem zip_tup {S : List Addr} {v : V} {ds : List D} {j : Nat} {e : D} (h : Dat K G B H S v (.tup ds)) (hk : ds[j]? = some e) : ∃ p vs w, v = .ref p ∧ TupO K G p vs ∧ vs.length = ds.length ∧ vs[j]? = some w ∧ Zip K G B H S v w e fun e' => .tup (ds.set j e') := by
  cases h with
  | @tup _ p vs _ nd hs =>
    obtain ⟨w, S1, S2, h1, h2, h3, h4, k⟩ := zipL hs hk
    refine ⟨p, vs, w, rfl, nd, hs.length, h1, S1, S2, h2, h3, h4, fun G' B' H' T e' g b on h' n' => ⟨by simp [D.root], ?_⟩⟩
    obtain ⟨S', q, r⟩ := k G' B' H' T e' g b on h' n'
    exact ⟨S', q, .tup (nd.mono g) r⟩
theorem zip_dic {S : List Addr} {v : V} {fl : Fl} {ds : List (Kd × D)} {q : Key} {e : D} (h : Dat K G B H S v (.dic fl ds)) (n : (D.dic fl ds).old) (hk : getK ds (.k q) = some e) : ∃ p vs w, v = .ref p ∧ NdR G B H fl p (.dK vs) ∧ valV vs q = some w ∧ Zip K G B H S v w e fun e' => .dic fl (setK ds (.k q) e') := by
  cases h with
  | @dic U _ p vs _ nd hs =>
    obtain ⟨w, S1, S2, h1, h2, h3, h4, k⟩ := zipM hs hk
    refine ⟨p, vs, w, rfl, nd, getKV_K h1, S1, fl.ad p ++ S2, (h2.append_left _).trans (List.perm_append_comm_assoc _ _ _), h3, h4, fun G' B' H' T e' g b on h' n' => ⟨?_, ?_⟩⟩
    · simpa [D.root] using n
    · obtain ⟨S', q, r⟩ := k G' B' H' T e' g b on.r h' n'
      exact ⟨fl.ad p ++ S', (q.append_left _).trans (List.perm_append_comm_assoc _ _ _), .dic (nd.mono g b (on_ad on) trivial) r⟩
theorem zip_dit {S : List Addr} {v : V} {fl : Fl} {ds : List (Kd × D)} {q : List Key} {e : D} (h : Dat K G B H S v (.dit fl ds)) (n : (D.dit fl ds).old) (hk : getK ds (.t q) = some e) : ∃ p vs w, v = .ref p ∧ NdR G B H fl p (.dT vs) ∧ valV vs q = some w ∧ Zip K G B H S v w e fun e' => .dit fl (setK ds (.t q) e') := by
  cases h with
  | @dit U _ p vs _ nd hs =>
    obtain ⟨w, S1, S2, h1, h2, h3, h4, k⟩ := zipM hs hk
    refine ⟨p, vs, w, rfl, nd, getKV_T h1, S1, fl.ad p ++ S2, (h2.append_left _).trans (List.perm_append_comm_assoc _ _ _), h3, h4, fun G' B' H' T e' g b on h' n' => ⟨?_, ?_⟩⟩
    · simpa [D.root] using n
    · obtain ⟨S', q, r⟩ := k G' B' H' T e' g b on.r h' n'
      exact ⟨fl.ad p ++ S', (q.append_left _).trans (List.perm_append_comm_assoc _ _ _), .dit (nd.mono g b (on_ad on) trivial) r⟩
end

/-! ### paths -/
/-- a place, the tree at the path's end, the whole with another one there -/
structure Pt where
  l : Lc
  e : D
  put : D → D
noncomputable abbrev FP := Plc → Out Exn Pt
structure PathR (K : PySem.W.Frag) (G B H : Hp) (As : List V) (S : Pi → List Addr) (σ : L2.St) (ρ : Plc) (w : V) (x : Pt) : Prop where
  ex : ∃ d v, ρ.get x.l = some d ∧ x.l.At σ As v ∧ Zip K G B H (S x.l.pi) v w x.e x.put
theorem PathR.ext {K : PySem.W.Frag} {G B H G1 H1 : Hp} {As : List V} {S : Pi → List Addr} {σ : L2.St} {ρ : Plc} {w : V} {x : Pt} (e : Ext G H G1 H1) (h : PathR K G B H As S σ ρ w x) : PathR K G1 B H1 As S σ ρ w x :=
  let ⟨d, v, a, b, z⟩ := h.ex
  ⟨d, v, a, b, z.ext e⟩
noncomputable def upP (K : PySem.W.Frag) (W : WX) (fp : FP) : TE := fun σ H R => ∃ (G B Φ : Hp) (As : List V) (S : Pi → List Addr) (ρ : Plc), VRep K G B Φ H As S σ ρ ∧ (fp ρ).P (fun x => ∀ G' H' w, Ext G H G' H' → PathR K G' B H' As S σ ρ w x → R w H') (EX K W G B H σ)
noncomputable abbrev PP (X : Cx) (W : WX) (e : Expr) (fp : FP) : Prop := PE X e (upP X.K W fp)
noncomputable def pNm (i : Nat) : FP := fun ρ => match ρ.lc i with
  | some l => match ρ.get l with
    | some d => .ok ⟨l, d, id⟩
    | none => .no
  | none => .no
noncomputable def pIx (fp : FP) (fq : FQ) : FP := fun ρ => (fp ρ).bind fun x => (fq ρ).bind fun k => match x.e, k with
  | .lst fl ds, .int i => if fl = .loc then .no else (match ixN ds.length i with
    | some j => match ds[j]? with
      | some d => .ok ⟨x.l, d, x.put ∘ fun d' => .lst fl (ds.set j d')⟩
      | none => .no
    | none => .no)
  | .tup ds, .int i => (match ixN ds.length i with
    | some j => match ds[j]? with
      | some d => .ok ⟨x.l, d, x.put ∘ fun d' => .tup (ds.set j d')⟩
      | none => .no
    | none => .no)
  | .dic fl kvs, k => (match keyK k with
    | some q => match getK kvs (.k q) with
      | some d => .ok ⟨x.l, d, x.put ∘ fun d' => .dic fl (setK kvs (.k q) d')⟩
      | none => .no
    | none => .no)
  | .dit fl kvs, k => (match keyT k with
    | some q => match getK kvs (.t q) with
      | some d => .ok ⟨x.l, d, x.put ∘ fun d' => .dit fl (setK kvs (.t q) d')⟩
      | none => .no
    | none => .no)
  | _, _ => .no
section
variable {X : Cx} {W : WX} {e i o : Expr} {pos p apos : Pos} {x f : Str} {C : Addr} {fp : FP} {fq : FQ}
theorem pp_nm (n : Nat) (hN : X.N[n]? = some x := by rfl) (hv : Vis X.env.scope x := by first | exact Or.inl rfl | exact Or.inr (Or.inl rfl) | exact Or.inr (Or.inr rfl)) (hd : (x == ("__debug__" : Str)) = false := by decide) (hcd : (x == ("__classdict__" : Str)) = false := by decide) : PP X W (.Name x pos) (pNm n) :=
  peI (pe_var hN hv hd hcd) fun σ H R ⟨G, B, Φ, As, S, ρ, r, q⟩ => by
    unfold pNm at q
    cases hl : ρ.lc n with
    | none => rw [hl] at q; exact q.elim
    | some l =>
      rw [hl] at q
      simp only at q
      cases hg : ρ.get l with
      | none => rw [hg] at q; exact q.elim
      | some d =>
        rw [hg] at q
        obtain ⟨v, h1, h2⟩ := r.lc_at hl
        obtain ⟨v', a1, a2, a3, _, _⟩ := r.takeL hg
        have := Lc.at_eq h2 a1
        subst this
        exact ⟨v, h1, q G H v (Ext.refl r.gh) ⟨d, v, hg, h2, .refl a3 a2⟩⟩
theorem upP_bind {K : PySem.W.Frag} {σ : L2.St} {G B Φ H : Hp} {As : List V} {S : Pi → List Addr} {ρ : Plc} {α : Type} {k : Pt → Out Exn α} {R : VK} {P : α → Prop} (r : VRep K G B Φ H As S σ ρ) (h : ((fp ρ).bind k).P P (EX K W G B H σ))
    (go : ∀ x G1 H1 w, Ext G H G1 H1 → PathR K G1 B H1 As S σ ρ w x → (k x).P P (EX K W G B H σ) → R w H1) : upP K W fp σ H R :=
  ⟨G, B, Φ, As, S, ρ, r, Out.P_mono (Out.P_bind.mp h) (fun x q G1 H1 w e pr => go x G1 H1 w e pr q) fun _ z => z⟩
theorem pp_ix (hu : X.A.units + 1 < cLine) (ho : PP X W o fp) (hi : QE X W i fq) (hs : PlainIx i := by intro _ _; rfl) : PP X W (.Subscript o i pos) (pIx fp fq) := peI (pe_ix (ix_U hu) ho hi hs) fun σ H R ⟨G, B, Φ, As, S, ρ, r, q⟩ =>
  upP_bind r q fun x G1 H1 w e1 pr q1 => upQ_bind (r.so.ext e1) (Out.P_mono q1 (fun _ z => z) fun _ z => EX.ext e1 z) fun k G2 H2 u e2 hk fr q2 => by
    obtain ⟨l, d, put⟩ := x
    obtain ⟨d0, v0, h1, h2, z⟩ := pr.ex
    have r2 := (r.ext e1).ext e2
    have bh2 := bh_of r2
    obtain ⟨S1, S2, z1, z2, z3, z4⟩ := (z.ext e2).ex
    simp only at q2
    split at q2
    · rename_i fl ds i
      by_cases hf : fl = .loc
      · rw [if_pos hf] at q2; exact q2.elim
      · rw [if_neg hf] at q2
        cases hj : ixN ds.length i with
        | none => rw [hj] at q2; exact q2.elim
        | some j =>
          rw [hj] at q2
          simp only at q2
          cases hd : ds[j]? with
          | none => rw [hd] at q2; exact q2.elim
          | some d2 =>
            rw [hd] at q2
            obtain ⟨p, vs, w2, rfl, nd, hl, hw, zz⟩ := zip_lst z2 z3 hf hd
            refine .inl (.inl ⟨p, vs, i, w2, rfl, dt_int hk, SqL.of (nd.here r2.gh bh2), ?_, q2 G2 H2 w2 (e1.trans e2) ⟨d0, v0, h1, h2, by have tz := Zip.trans z1 z4 zz; exact tz⟩⟩)
            unfold atI
            rw [hl, hj]
            exact hw
    · rename_i ds i
      cases hj : ixN ds.length i with
      | none => rw [hj] at q2; exact q2.elim
      | some j =>
        rw [hj] at q2
        simp only at q2
        cases hd : ds[j]? with
        | none => rw [hd] at q2; exact q2.elim
        | some d2 =>
          rw [hd] at q2
          obtain ⟨p, vs, w2, rfl, nd, hl, hw, zz⟩ := zip_tup z2 hd
          refine .inl (.inr (.inl ⟨p, vs, i, w2, rfl, dt_int hk, r2.gh.n.sqT nd.sq, ?_, q2 G2 H2 w2 (e1.trans e2) ⟨d0, v0, h1, h2, by have tz := Zip.trans z1 z4 zz; exact tz⟩⟩))
          unfold atI
          rw [hl, hj]
          exact hw
    · rename_i fl kvs
      cases hq : keyK k with
      | none => rw [hq] at q2; exact q2.elim
      | some qk =>
        rw [hq] at q2
        simp only at q2
        cases hd : getK kvs (.k qk) with
        | none => rw [hd] at q2; exact q2.elim
        | some d2 =>
          rw [hd] at q2
          obtain ⟨p, vs, w2, rfl, nd, hw, zz⟩ := zip_dic z2 z3 hd
          have := key_dt hk hq
          subst this
          exact .inr ⟨p, w2, rfl, .inl ⟨vs, qk, nd.here r2.gh bh2, rfl, hw.symm⟩, q2 G2 H2 w2 (e1.trans e2) ⟨d0, v0, h1, h2, by have tz := Zip.trans z1 z4 zz; exact tz⟩⟩
    · rename_i fl kvs
      cases hq : keyT k with
      | none => rw [hq] at q2; exact q2.elim
      | some qk =>
        rw [hq] at q2
        simp only at q2
        cases hd : getK kvs (.t qk) with
        | none => rw [hd] at q2; exact q2.elim
        | some d2 =>
          rw [hd] at q2
          obtain ⟨p, vs, w2, rfl, nd, hw, zz⟩ := zip_dit z2 z3 hd
          obtain ⟨b, rfl, hb, _⟩ := keyT_dt r2.gh hk hq
          exact .inr ⟨p, w2, rfl, .inr ⟨vs, qk, b, nd.here r2.gh bh2, rfl, hb, hw.symm⟩, q2 G2 H2 w2 (e1.trans e2) ⟨d0, v0, h1, h2, by have tz := Zip.trans z1 z4 zz; exact tz⟩⟩
    · exact q2.elim
end
end VL

/-! VLw: lists whose values are owned; what stands at a path is changed. -/
namespace VL
open PySem PySem.Spec PyProof.Rows L2
variable [LamT]

/-! ### lists of values that are kept aside -/
noncomputable def hold (Φ : Hp) (T : List Addr) (H : Hp) : Hp := fun a => if a ∈ T then H a else Φ a
theorem hold_at {Φ H : Hp} {T : List Addr} {a : Addr} (m : a ∈ T) : hold Φ T H a = H a := by simp [hold, m]
theorem hold_ne {Φ H : Hp} {T : List Addr} {a : Addr} (m : a ∉ T) : hold Φ T H a = Φ a := by simp [hold, m]
section
variable {K : PySem.W.Frag} {G B Φ H H0 : Hp} {As : List V} {S : Pi → List Addr} {σ : L2.St} {ρ : Plc} {T : List Addr}
theorem VRep.hold (r : VRep K G B Φ H As S σ ρ) (t : TOk T S G Φ H) : VRep K G B (VL.hold Φ T H) H As S σ ρ where
  gh := r.gh
  bp := fun a o e => by
    have := r.bp a o e
    by_cases m : a ∈ T
    · rw [(t.2 a m).2.2.1] at this; cases this
    · rw [hold_ne m]; exact this
  ph := ⟨fun a o e n => by
    by_cases m : a ∈ T
    · rw [hold_at m] at e; exact e
    · rw [hold_ne m] at e; exact r.ph a o e n, fun a ps e => by
    by_cases m : a ∈ T
    · rw [hold_at m] at e; exact ⟨ps, e⟩
    · rw [hold_ne m] at e; exact r.ph.y a ps e⟩
  dis := fun a o e => by
    by_cases m : a ∈ T
    · exact (t.2 a m).2.1
    · rw [hold_ne m] at e; exact r.dis a o e
  len := r.len
  alen := r.alen
  slot := r.slot
  arg := r.arg
  ar := r.ar
  nd := r.nd
  dj := r.dj
  fr := fun i a m => by
    obtain ⟨h1, h2, h3⟩ := r.fr i a m
    refine ⟨h1, ?_, h3⟩
    rw [hold_ne fun z => (t.2 a z).1 i m]
    exact h2
theorem VRep.unhold (r : VRep K G B (VL.hold Φ T H0) H As S σ ρ) (bp : Same B Φ) (hT : ∀ a ∈ T, Φ a = none) : VRep K G B Φ H As S σ ρ where
  gh := r.gh
  bp := bp
  ph := ⟨fun a o e n => r.ph a o (by rw [hold_ne fun z => by rw [hT a z] at e; cases e]; exact e) n, fun a ps e => r.ph.y a ps (by rw [hold_ne fun z => by rw [hT a z] at e; cases e]; exact e)⟩
  dis := fun a o e => r.dis a o (by rw [hold_ne fun z => by rw [hT a z] at e; cases e]; exact e)
  len := r.len
  alen := r.alen
  slot := r.slot
  arg := r.arg
  ar := r.ar
  nd := r.nd
  dj := r.dj
  fr := fun i a m => by
    obtain ⟨h1, h2, h3⟩ := r.fr i a m
    refine ⟨h1, ?_, h3⟩
    by_cases z : a ∈ T
    · exact hT a z
    · rw [hold_ne z] at h2; exact h2
end
noncomputable abbrev FL := Plc → Out (Exn × Plc) (List D × Plc)
noncomputable def GKL (K : PySem.W.Frag) (G B Φ : Hp) (As : List V) (σ : L2.St) (R : List V → Hp → Prop) (x : List D × Plc) : Prop := ∀ G' H' S' vs T, Same G G' → VRep K G' B Φ H' As S' σ x.2 → Dats K G' B H' T vs x.1 → TOk T S' G' Φ H' → R vs H'
noncomputable def upL (K : PySem.W.Frag) (W : WX) (f : FL) : TA := fun σ H R => ∃ (G B Φ : Hp) (As : List V) (S : Pi → List Addr) (ρ : Plc), VRep K G B Φ H As S σ ρ ∧ (f ρ).P (GKL K G B Φ As σ R) (GX K W G B Φ As σ)
noncomputable abbrev GL (X : Cx) (W : WX) (es : List Expr) (f : FL) : Prop := PA X es (upL X.K W f)
noncomputable def lNil : FL := fun ρ => .ok ([], ρ)
noncomputable def lCons (ga : FG) (gs : FL) : FL := fun ρ => (ga ρ).bind fun x => (gs x.2).bind fun y => .ok (x.1 :: y.1, y.2)
theorem GX.hold {K : PySem.W.Frag} {W : WX} {G G1 B Φ H : Hp} {As : List V} {σ : L2.St} {T : List Addr} {x : Exn × Plc} (s : Same G G1) (bp : Same B Φ) (hT : ∀ a ∈ T, Φ a = none) (h : GX K W G B Φ As σ x) : GX K W G1 B (VL.hold Φ T H) As σ x := fun G' H' S' cls dx s' r er => h G' H' S' cls dx (s.trans s') (r.unhold bp hT) er
/-- a value aside, still there later -/
theorem hold_later {K : PySem.W.Frag} {G1 B Φ H1 G2 H2 : Hp} {As : List V} {S1 S2 : Pi → List Addr} {σ : L2.St} {ρ1 ρ2 : Plc} {T1 T2 : List Addr} (bp : Same B Φ) (t1 : TOk T1 S1 G1 Φ H1) (r2 : VRep K G2 B (VL.hold Φ T1 H1) H2 As S2 σ ρ2) (t2 : TOk T2 S2 G2 (VL.hold Φ T1 H1) H2) : On T1 H1 H2 ∧ VRep K G2 B Φ H2 As S2 σ ρ2 ∧ TOk (T1 ++ T2) S2 G2 Φ H2 := by
  have hT : ∀ a ∈ T1, Φ a = none := fun a m => (t1.2 a m).2.2.1
  have on : On T1 H1 H2 := fun a m o e n => r2.ph a o (by rw [hold_at m]; exact e) n
  refine ⟨on, r2.unhold bp hT, ?_⟩
  have at1 : ∀ a ∈ T1, ∃ o, VL.hold Φ T1 H1 a = some o ∧ H2 a = some o ∧ HO.free o := fun a m => by
    obtain ⟨_, _, _, o, h1, h2⟩ := t1.2 a m
    exact ⟨o, by rw [hold_at m]; exact h1, on a m o h1 h2.n, h2⟩
  refine ⟨List.nodup_append.mpr ⟨t1.1, t2.1, fun a m b m' e => ?_⟩, fun a m => ?_⟩
  · subst e
    obtain ⟨o, h1, _⟩ := at1 a m
    rw [(t2.2 a m').2.2.1] at h1; cases h1
  · rcases List.mem_append.mp m with m | m
    · obtain ⟨o, h1, h2, h3⟩ := at1 a m
      refine ⟨fun i z => ?_, r2.dis a o h1, hT a m, o, h2, h3⟩
      rw [(r2.fr i a z).2.1] at h1; cases h1
    · obtain ⟨h1, h2, h3, h4⟩ := t2.2 a m
      refine ⟨h1, h2, ?_, h4⟩
      by_cases z : a ∈ T1
      · exact hT a z
      · rw [hold_ne z] at h3; exact h3
section
variable {X : Cx} {W : WX} {e o : Expr} {es : List Expr} {ga : FG} {gs : FL} {pos : Pos}
theorem gl_nil : GL X W [] lNil := paI pa_nil fun σ H R ⟨G, B, Φ, As, S, ρ, rp, q⟩ => q G H S [] [] (fun _ _ e => e) rp .nil .nil
theorem gl_cons (ha : GE X W e ga) (hr : GL X W es gs) (hs : starEach (e :: es) X.env = (false, eval e X.env) :: starEach es X.env := by rfl) : GL X W (e :: es) (lCons ga gs) :=
  paI (pa_cons ha hr hs) fun σ H R ⟨G, B, Φ, As, S, ρ, rp, q⟩ => by
    refine ⟨G, B, Φ, As, S, ρ, rp, Out.P_mono (Out.P_bind.mp q) (fun x q1 G1 H1 S1 v T1 s1 r1 hx n1 t1 => ?_) fun _ z => z⟩
    have hT : ∀ a ∈ T1, Φ a = none := fun a m => (t1.2 a m).2.2.1
    refine ⟨G1, B, _, As, S1, x.2, r1.hold t1, Out.P_mono (Out.P_bind.mp q1) (fun y q2 G2 H2 S2 vs T2 s2 r2 hds t2 => ?_) fun _ z => z.hold s1 rp.bp hT⟩
    obtain ⟨on, r3, t3⟩ := hold_later (ρ1 := x.2) rp.bp t1 r2 t2
    exact q2 G2 H2 S2 (v :: vs) (T1 ++ T2) (s1.trans s2) r3 (.cons n1 (hx.mono s2 (fun _ _ q => q) on) hds) t3
noncomputable def gTupL (gs : FL) : FG := fun ρ => (gs ρ).bind mkTupG
noncomputable def gLstL (gs : FL) : FG := fun ρ => (gs ρ).bind mkLstG
theorem ge_tupL {x1} (h : GL X W es gs) : GE X W (.Tuple es x1 pos) (gTupL gs) := peI (pe_tup h) fun σ H R ⟨G, B, Φ, As, S, ρ, rp, q⟩ => by
  refine ⟨G, B, Φ, As, S, ρ, rp, Out.P_mono (Out.P_bind.mp q) (fun x q1 G1 H1 S1 vs T1 s1 r1 hx t1 => ?_) fun _ z => z⟩
  obtain ⟨hl, k⟩ := Out.P_if q1
  refine ⟨by rw [hx.length]; exact hl, fun p hp => ?_⟩
  have e := Ext.layG (o := .tup vs) r1.gh hp
  exact k _ _ S1 (.ref p) T1 (s1.trans e.g) (r1.ext e) (.tup (.inl upd_same) (hx.mono e.g (fun _ _ q => q) (On.of e.h))) (by simp [D.root]) (t1.ext e fun _ _ m => m)
theorem ge_lstL (h : GL X W es gs) : GE X W (.List es pos) (gLstL gs) := peI (pe_lst h) fun σ H R ⟨G, B, Φ, As, S, ρ, rp, q⟩ => by
  refine ⟨G, B, Φ, As, S, ρ, rp, Out.P_mono (Out.P_bind.mp q) (fun x q1 G1 H1 S1 vs T1 s1 r1 hx t1 => ?_) fun _ z => z⟩
  obtain ⟨hl, k⟩ := Out.P_if q1
  refine ⟨by rw [hx.length]; exact hl, fun p hp => ?_⟩
  have e := Ext.lay (o := .lst vs) r1.gh hp
  obtain ⟨g1, g2, g3⟩ := r1.none_of hp
  refine k _ _ S1 (.ref p) ([p] ++ T1) (s1.trans e.g) (r1.ext e) (.lst (f := .own) upd_same (hx.mono e.g (fun _ _ q => q) (On.of e.h))) (by simp [D.root]) (TOk.app (.one g1 g2 g3 upd_same (HO.free_by (by intro _ _ z; cases z))) (t1.ext e fun _ _ m => m) fun a m m' => ?_)
  have : a = p := by simpa using m
  subst this
  obtain ⟨_, _, _, o, z, _⟩ := t1.2 a m'
  rw [hp] at z; cases z
/-- a value is settled -/
noncomputable def gSt (ga : FG) : FG := fun ρ => (ga ρ).bind fun x => .ok (x.1.fz, x.2)
theorem ge_st (h : GE X W e ga) : GE X W e (gSt ga) := peI h fun σ H R ⟨G, B, Φ, As, S, ρ, rp, q⟩ => by
  refine ⟨G, B, Φ, As, S, ρ, rp, Out.P_mono (Out.P_bind.mp q) (fun x q1 G1 H1 S1 v T1 s1 r1 hx n1 t1 => ?_) fun _ z => z⟩
  have sm : Same G1 (more G1 H1 T1) := more_same fun a m => (t1.2 a m).2.1
  exact q1 _ H1 S1 v [] (s1.trans sm) (r1.more t1) (dat_fz hx fun a m => (t1.2 a m).2.1) (fz_old _) .nil
end

/-! ### a node at a path -/
theorem VRep.upd {K : PySem.W.Frag} {G B Φ H : Hp} {As : List V} {S : Pi → List Addr} {σ : L2.St} {ρ : Plc} {a : Addr} {o : HO} (r : VRep K G B Φ H As S σ ρ) (hS : ∀ i, a ∉ S i) (g : G a = none) (p : Φ a = none) (hH : ∀ u, H a = some u → PlO u) : VRep K G B Φ (L2.upd H a o) As S σ ρ := by
  have ne : ∀ {F : Hp} {b : Addr} {u : HO}, F a = none → F b = some u → b ≠ a := fun h e z => by subst z; rw [h] at e; cases e
  have on : ∀ i, On (S i) H (L2.upd H a o) := fun i b m u e n => by rw [upd_ne (by rintro rfl; exact hS i m)]; exact e
  refine ⟨⟨r.gh.n.put g, tabs_of r.gh.t fun b u e n => by
    by_cases hb : b = a
    · subst hb; exact absurd (hH u e) n
    · rw [upd_ne hb]; exact e⟩, r.bp, r.ph.put p, r.dis, r.len, r.alen, fun i d q => let ⟨n, v, h1, h2⟩ := r.slot i d q; ⟨n, v, h1, h2.mono (fun _ _ q => q) (fun _ _ q => q) (on _)⟩, r.arg, fun i d q => let ⟨n, v, h1, h2⟩ := r.ar i d q; ⟨n, v, h1, h2.mono (fun _ _ q => q) (fun _ _ q => q) (on _)⟩, r.nd, r.dj, fun i b m => ?_⟩
  obtain ⟨h1, h2, u, h3, h4⟩ := r.fr i b m
  exact ⟨h1, h2, u, on i b m u h3 h4.n, h4⟩
theorem Plc.put_rm {ρ : Plc} {l : Lc} {d : D} : (ρ.rm l).put l d = ρ.put l d := by
  cases l <;> simp [Plc.rm, Plc.put, Plc.setS, Plc.setA]
theorem node_core {K : PySem.W.Frag} {G B Φ H : Hp} {As : List V} {S : Pi → List Addr} {σ : L2.St} {ρ : Plc} {x : Pt} {d0 : D} {v0 w : V} {a : Addr} {U S2 U' T T' L : List Addr} {e' : D} {o' : HO}
    (r : VRep K G B Φ H As S σ ρ) (hg : ρ.get x.l = some d0) (ha : x.l.At σ As v0) (hp : (S x.l.pi).Perm ((a :: U) ++ S2))
    (zk : ∀ (G' B' H' : Hp) (T : List Addr) (e' : D), Same G G' → Same B B' → On S2 H H' → Dat K G' B' H' T w e' → e'.old → (x.put e').old ∧ ∃ S', S'.Perm (T ++ S2) ∧ Dat K G' B' H' S' v0 (x.put e'))
    (t : TOk T S G Φ H) (pm : (U' ++ T' ++ L).Perm (U ++ T)) (fo : HO.free o') (hd : (∀ a' ∈ U', a' ≠ a) → Dat K G B (L2.upd H a o') (a :: U') w e') (n : e'.old) :
    ∃ S', VRep K G B Φ (L2.upd H a o') As S' σ (ρ.put x.l (x.put e')) ∧ TOk T' S' G Φ (L2.upd H a o') ∧ (∀ a' ∈ T', a' ≠ a) := by
  obtain ⟨v1, a1, a2, a3, r1, t1⟩ := r.takeL hg
  have := Lc.at_eq ha a1
  subst this
  have mem : ∀ b, b ∈ (a :: U) ++ S2 → b ∈ S x.l.pi := fun b m => hp.symm.subset m
  have aS : a ∈ S x.l.pi := mem a (by simp)
  have nd0 : ((a :: U) ++ S2 ++ T).Nodup := List.nodup_append.mpr ⟨hp.nodup (r.nd _), t.1, fun b m c m' e => by subst e; exact (t.2 b m').1 _ (mem b m)⟩
  have nd1 : ((a :: (U' ++ T' ++ L)) ++ S2).Nodup := by
    refine List.Perm.nodup ?_ nd0
    have h1 : ((a :: U) ++ S2 ++ T).Perm ((a :: (U ++ T)) ++ S2) := by
      simp only [List.cons_append, List.append_assoc]
      exact (List.Perm.append_left U (List.perm_append_comm)).cons a
    exact h1.trans (((pm.symm).cons a).append_right S2)
  have sub : ∀ b, b ∈ U' ++ T' ++ L → b ∈ S x.l.pi ∨ b ∈ T := fun b m => by
    rcases List.mem_append.mp (pm.subset m) with m | m
    · exact .inl (mem b (by simp [m]))
    · exact .inr m
  simp only [List.cons_append, List.nodup_cons, List.append_assoc, List.nodup_append] at nd1
  obtain ⟨k0, k1, ⟨k2, ⟨k3, k4, k5⟩, k6⟩, k7⟩ := nd1
  have naU : ∀ b ∈ U', b ≠ a := fun b m e => k0 (by subst e; simp [m])
  have naT : ∀ b ∈ T', b ≠ a := fun b m e => k0 (by subst e; simp [m])
  have naS2 : a ∉ S2 := fun m => k0 (by simp [m])
  have gp : G a = none ∧ Φ a = none := ⟨(t1.2 a aS).2.1, (t1.2 a aS).2.2.1⟩
  have r2 : VRep K G B Φ (L2.upd H a o') As _ σ (ρ.rm x.l) := r1.upd (fun i => (t1.2 a aS).1 i) gp.1 gp.2 fun u e => by
    obtain ⟨o, h1, h2⟩ := (t1.2 a aS).2.2.2
    rw [e] at h1; cases h1; exact h2.p
  obtain ⟨m1, S', q, hS'⟩ := zk G B (L2.upd H a o') (a :: U') e' (fun _ _ e => e) (fun _ _ e => e) (fun b m u e _ => by rw [upd_ne (by rintro rfl; exact naS2 m)]; exact e) (hd naU) n
  have okb : ∀ b, (b ∈ S x.l.pi ∨ b ∈ T) → (∀ i, b ∉ setS S x.l.pi [] i) ∧ G b = none ∧ Φ b = none ∧ ∃ o, (L2.upd H a o') b = some o ∧ HO.free o := fun b m => by
    have h0 : (∀ i, b ∉ setS S x.l.pi [] i) ∧ G b = none ∧ Φ b = none ∧ ∃ o, H b = some o ∧ HO.free o := by
      rcases m with m | m
      · exact t1.2 b m
      · obtain ⟨h1, h2⟩ := t.2 b m
        refine ⟨fun i z => ?_, h2⟩
        by_cases hi : i = x.l.pi
        · subst hi; rw [setS_same] at z; cases z
        · rw [setS_ne hi] at z; exact h1 i z
    obtain ⟨h1, h2, h3, u, h4, h5⟩ := h0
    refine ⟨h1, h2, h3, ?_⟩
    by_cases e : b = a
    · subst e; exact ⟨o', upd_same, fo⟩
    · exact ⟨u, by rw [upd_ne e]; exact h4, h5⟩
  have tS : TOk S' (setS S x.l.pi []) G Φ (L2.upd H a o') := by
    refine ⟨q.symm.nodup ?_, fun b m => okb b ?_⟩
    · simp only [List.cons_append, List.nodup_cons, List.nodup_append, List.mem_append]
      exact ⟨fun m => k0 (by rcases m with m | m <;> simp [m]), k1, k4, fun b m c m' e => k7 b m c (by simp [m']) e⟩
    · have := q.subset m
      simp only [List.cons_append, List.mem_cons, List.mem_append] at this
      rcases this with rfl | m | m
      · exact .inl aS
      · exact sub b (by simp [m])
      · exact .inl (mem b (by simp [m]))
  have r3 := r2.putL ha hS' m1 tS
  rw [Plc.put_rm] at r3
  refine ⟨_, r3, ⟨?_, fun b m => ?_⟩, naT⟩
  · exact k2
  · obtain ⟨h1, h2⟩ := okb b (sub b (by simp [m]))
    refine ⟨fun i z => ?_, h2⟩
    by_cases hi : i = x.l.pi
    · subst hi
      rw [setS_same] at z
      have := q.subset z
      simp only [List.cons_append, List.mem_cons, List.mem_append] at this
      rcases this with rfl | z | z
      · exact naT _ m rfl
      · exact k7 b z b (by simp [m]) rfl
      · exact k6 b m b (by simp [z]) rfl
    · rw [setS_ne hi] at z; exact h1 i z
end VL

/-! VLx: lists and dicts changed. -/
namespace VL
open PySem PySem.Spec PyProof.Rows L2
variable [LamT]

/-! ### lists of quiet values that come to be owned -/
noncomputable abbrev FMq := Plc → Out Exn (List D)
noncomputable def upMq (K : PySem.W.Frag) (W : WX) (f : FMq) : TA := fun σ H R => ∃ (G B Φ : Hp) (As : List V) (S : Pi → List Addr) (ρ : Plc), VRep K G B Φ H As S σ ρ ∧
  (f ρ).P (fun ds => ∀ G' H' vs T, Ext G H G' H' → Dats K G' B H' T vs ds → TOk T S G' Φ H' → (∀ a ∈ T, H a = none) → R vs H') (EX K W G B H σ)
noncomputable abbrev MQ (X : Cx) (W : WX) (es : List Expr) (f : FMq) : Prop := PA X es (upMq X.K W f)
noncomputable def mqNil : FMq := fun _ => .ok []
noncomputable def mqCons (f : FQ) (m : FMq) : FMq := fun ρ => (f ρ).bind fun d => if d.free = true then (m ρ).bind fun ds => .ok (d.up :: ds) else .no
theorem up_new {K : PySem.W.Frag} {G B Φ H G1 H1 : Hp} {As : List V} {S : Pi → List Addr} {σ : L2.St} {ρ : Plc} {v : V} {d : D} (r : VRep K G B Φ H As S σ ρ) (e : Ext G H G1 H1) (hd : Dt K G1 B H1 v d) (fr : Fresh H G1 v d) (hf : d.free = true) : ∃ T, Dat K G1 B H1 T v d.up ∧ TOk T S G1 Φ H1 ∧ ∀ a ∈ T, H a = none := by
  obtain ⟨T, h1, h2⟩ := up_dat r e hd fr hf
  refine ⟨T, h1, h2, fun a m => ?_⟩
  by_cases ho : d.old
  · rw [up_id ho] at h1
    rw [free_id ho] at hf
    have := h1.noS hf
    subst this; cases m
  · have hr : d.root = some .new := by simpa using ho
    obtain ⟨p, rfl, a1, a2⟩ := fr hr
    have key : ∀ {U : List Addr}, U = [] → a ∈ Fl.ad .own p ++ U → H a = none := fun {U} e q => by
      subst e
      have : a = p := by simpa [Fl.ad] using q
      subst this; exact a1
    cases d with
    | lst f xs => cases hr; cases h1 with | lst n hs => exact key (Dats.noS hs (by simpa only [D.free] using hf)) m
    | dic f xs => cases hr; cases h1 with | dic n hs => exact key (DatM.noS hs (by simpa only [D.free] using hf)) m
    | dit f xs => cases hr; cases h1 with | dit n hs => exact key (DatM.noS hs (by simpa only [D.free] using hf)) m
    | din f xs => cases hr; cases h1 with | din hw n hk eq => exact key rfl m
    | obj f C xs => cases hr; cases h1 with | obj n hs => exact key (DatM.noS hs (by simpa only [D.free] using hf)) m
    | _ => cases hr
section
variable {X : Cx} {W : WX} {e o i : Expr} {es : List Expr} {f : FQ} {m : FMq}
theorem mq_nil : MQ X W [] mqNil := paI pa_nil fun σ H R ⟨G, B, Φ, As, S, ρ, r, q⟩ => q G H [] [] (Ext.refl r.gh) .nil .nil fun a m => by cases m
theorem mq_cons (ha : QE X W e f) (hr : MQ X W es m) (hs : starEach (e :: es) X.env = (false, eval e X.env) :: starEach es X.env := by rfl) : MQ X W (e :: es) (mqCons f m) :=
  paI (pa_cons ha hr hs) fun σ H R ⟨G, B, Φ, As, S, ρ, r, q⟩ => upQ_bind r.so q fun d G1 H1 v e1 hd fr q1 => by
    obtain ⟨hf, q1⟩ := Out.P_ifn q1
    obtain ⟨T1, h1, t1, n1⟩ := up_new r e1 hd fr hf
    refine ⟨G1, B, Φ, As, S, ρ, r.ext e1, Out.P_mono (Out.P_bind.mp q1) (fun ds q2 G2 H2 vs T2 e2 hds t2 n2 => ?_) fun _ z => EX.ext e1 z⟩
    refine q2 G2 H2 (v :: vs) (T1 ++ T2) (e1.trans e2) (.cons (up_old d) (h1.mono e2.g (fun _ _ q => q) (On.of e2.h)) hds) (TOk.app (t1.ext e2 fun _ _ m => m) t2 fun a ma ma' => ?_) fun a ma => ?_
    · obtain ⟨_, _, _, u, z, _⟩ := t1.2 a ma
      rw [n2 a ma'] at z; cases z
    · rcases List.mem_append.mp ma with ma | ma
      · exact n1 a ma
      · exact e1.h.z _ (n2 a ma)
end

/-! ### methods that change a list -/
structure RML (r : V → List V → Hp → VK → Prop) (f : List D → List D → Option (List D × D)) : Prop where
  go : ∀ {K : PySem.W.Frag} {G B H : Hp} {a : Addr} {vs xs : List V} {ds es : List D} {U T : List Addr} {x : List D × D} {R : VK}, Sub G H → SmN B H → H a = some (.lst vs) → Dats K G B H U vs ds → Dats K G B H T xs es → f ds es = some x →
    (∀ vs' v U' T' L, (U' ++ T' ++ L).Perm (U ++ T) → Dats K G B H U' vs' x.1 → Dat K G B H T' v x.2 → x.2.old → R v (upd H a (.lst vs'))) → r (.ref a) xs H R
theorem free_lst {vs : List V} : HO.free (.lst vs) := HO.free_by (fun _ _ z => by cases z)
theorem lm_core {K : PySem.W.Frag} {G0 G B Φ H : Hp} {As : List V} {S : Pi → List Addr} {σ : L2.St} {ρ : Plc} {x : Pt} {d0 : D} {v0 w : V} {ds ds' es : List D} {xs : List V} {d : D} {T : List Addr} {R : VK} {r : V → List V → Hp → VK → Prop} {f : List D → List D → Option (List D × D)}
    (hr : RML r f) (rp : VRep K G B Φ H As S σ ρ) (s0 : Same G0 G) (hg : ρ.get x.l = some d0) (ha : x.l.At σ As v0) (he : x.e = .lst .own ds) (z : Zip K G B H (S x.l.pi) v0 w x.e x.put) (hx : Dats K G B H T xs es) (t : TOk T S G Φ H) (hf : f ds es = some (ds', d))
    (k : GK K G0 B Φ As σ R (d, ρ.put x.l (x.put (.lst .own ds')))) : r w xs H R := by
  obtain ⟨S1, S2, hp, hd, n, zk⟩ := z.ex
  rw [he] at hd
  cases hd with
  | @lst U _ a vs _ nd hs =>
    refine hr.go rp.gh (bh_of rp) nd hs hx hf fun vs' v U' T' L pm h1 h2 h3 => ?_
    obtain ⟨S', r', t', nT⟩ := node_core (U := U) (U' := U') (T' := T') (L := L) (e' := .lst .own ds') (o' := .lst vs') rp hg ha hp zk t pm free_lst (fun na => .lst (f := .own) upd_same (h1.mono (fun _ _ q => q) (fun _ _ q => q) fun b m u e _ => by rw [upd_ne (na b m)]; exact e)) (by simp [D.root])
    exact k G _ S' v T' s0 r' (h2.mono (fun _ _ q => q) (fun _ _ q => q) fun b m u e _ => by rw [upd_ne (nT b m)]; exact e) h3 t'
noncomputable def fAppend (ds es : List D) : Option (List D × D) := match es with
  | [d] => if ds.length < sizeLine then some (ds ++ [d], .non) else none
  | _ => none
theorem Dats.app {K : PySem.W.Frag} {G B H : Hp} : ∀ {U T : List Addr} {vs ws : List V} {ds es : List D}, Dats K G B H U vs ds → Dats K G B H T ws es → Dats K G B H (U ++ T) (vs ++ ws) (ds ++ es)
  | _, _, _, _, _, _, .nil, h => h
  | _, _, _, _, _, _, .cons n h t, h' => by
    have := Dats.cons n h (Dats.app t h')
    rwa [← List.append_assoc] at this
theorem dats1 {K : PySem.W.Frag} {G B H : Hp} {T : List Addr} {xs : List V} {d : D} (h : Dats K G B H T xs [d]) : ∃ v, xs = [v] ∧ d.old ∧ Dat K G B H T v d := by
  cases h with
  | cons n h t => cases t; exact ⟨_, rfl, n, by simpa using h⟩
theorem dats2 {K : PySem.W.Frag} {G B H : Hp} {T : List Addr} {xs : List V} {d e : D} (h : Dats K G B H T xs [d, e]) : ∃ v w T1 T2, xs = [v, w] ∧ T = T1 ++ T2 ∧ d.old ∧ Dat K G B H T1 v d ∧ e.old ∧ Dat K G B H T2 w e := by
  cases h with
  | cons n h t =>
    obtain ⟨w, rfl, n2, h2⟩ := dats1 t
    exact ⟨_, w, _, _, rfl, rfl, n, h, n2, h2⟩
theorem dat_int {K : PySem.W.Frag} {G B H : Hp} {T : List Addr} {v : V} {i : Int} (h : Dat K G B H T v (.int i)) : v = .int i ∧ T = [] := by cases h; exact ⟨rfl, rfl⟩
theorem rm_append : RML rAppend fAppend := ⟨fun {K G B H a vs xs ds es U T x R} gh bh hH hs hx hf k => by
  unfold fAppend at hf
  split at hf
  · rename_i d
    by_cases hl : ds.length < sizeLine
    · rw [if_pos hl] at hf
      cases hf
      obtain ⟨v, rfl, n, hv⟩ := dats1 hx
      exact ⟨a, vs, v, rfl, rfl, hH, by rw [hs.length]; exact hl, k _ _ (U ++ T) [] [] (by simp) (hs.app hx) .non (by simp [D.root])⟩
    · rw [if_neg hl] at hf; cases hf
  · cases hf⟩
theorem Dats.split {K : PySem.W.Frag} {G B H : Hp} : ∀ (n : Nat) {U : List Addr} {vs : List V} {ds : List D}, Dats K G B H U vs ds → ∃ U1 U2, U = U1 ++ U2 ∧ Dats K G B H U1 (vs.take n) (ds.take n) ∧ Dats K G B H U2 (vs.drop n) (ds.drop n)
  | 0, U, _, _, h => ⟨[], U, rfl, by simpa using .nil, h⟩
  | _ + 1, _, _, _, .nil => ⟨[], [], rfl, .nil, .nil⟩
  | n + 1, _, _, _, .cons (S := S0) nn h t => by
    obtain ⟨U1, U2, rfl, h1, h2⟩ := Dats.split n t
    exact ⟨S0 ++ U1, U2, by simp, .cons nn h h1, h2⟩
noncomputable def fInsert (ds es : List D) : Option (List D × D) := match es with
  | [.int i, d] => if ds.length < sizeLine ∧ 0 ≤ i ∧ i < 2 ^ 63 then some (ds.take i.toNat ++ [d] ++ ds.drop i.toNat, .non) else none
  | _ => none
theorem rm_insert : RML (fun x vs H Q => ∃ (l : Addr) (xs : List V) (i : Int) (y : V), x = .ref l ∧ vs = [.int i, y] ∧ H l = some (.lst xs) ∧ xs.length < sizeLine ∧ 0 ≤ i ∧ i < 2 ^ 63 ∧
    Q .non (upd H l (.lst (xs.take i.toNat ++ [y] ++ xs.drop i.toNat)))) fInsert := ⟨fun {K G B H a vs xs ds es U T x R} gh bh hH hs hx hf k => by
  unfold fInsert at hf
  split at hf
  · rename_i i d
    by_cases hl : ds.length < sizeLine ∧ 0 ≤ i ∧ i < 2 ^ 63
    · rw [if_pos hl] at hf
      cases hf
      obtain ⟨v, w, T1, T2, rfl, rfl, n1, h1, n2, h2⟩ := dats2 hx
      obtain ⟨rfl, rfl⟩ := dat_int h1
      obtain ⟨U1, U2, rfl, g1, g2⟩ := Dats.split i.toNat hs
      refine ⟨a, vs, i, w, rfl, rfl, hH, by rw [hs.length]; exact hl.1, hl.2.1, hl.2.2, k _ _ ((U1 ++ T2) ++ U2) [] [] ?_ ((g1.app (by simpa using Dats.cons n2 h2 .nil)).app g2) .non (by simp [D.root])⟩
      simp only [List.append_nil, List.nil_append, List.append_assoc]
      exact List.Perm.append_left U1 List.perm_append_comm
    · rw [if_neg hl] at hf; cases hf
  · cases hf⟩
noncomputable def fExtend (ds es : List D) : Option (List D × D) := match es with
  | [.lst f ys] => if f ≠ .loc ∧ D.allFL ownF ys = true ∧ ds.length + ys.length ≤ sizeLine then some (ds ++ ys, .non) else none
  | _ => none
theorem rm_extend : RML rExtend fExtend := ⟨fun {K G B H a vs xs ds es U T x R} gh bh hH hs hx hf k => by
  unfold fExtend at hf
  split at hf
  · rename_i f ys
    by_cases hl : f ≠ .loc ∧ D.allFL ownF ys = true ∧ ds.length + ys.length ≤ sizeLine
    · rw [if_pos hl] at hf
      cases hf
      obtain ⟨v, rfl, n, hv⟩ := dats1 hx
      cases hv with
      | lok _ _ => exact absurd rfl hl.1
      | @lst S' _ p ws _ nd hw =>
        have := Dats.noS hw hl.2.1
        subst this
        exact ⟨a, p, vs, ws, rfl, rfl, hH, nd.here gh bh, by rw [hs.length, hw.length]; exact hl.2.2, k _ _ (U ++ []) [] (f.ad p ++ []) (by simp) (hs.app hw) .non (by simp [D.root])⟩
    · rw [if_neg hl] at hf; cases hf
  · cases hf⟩
/-- xs.m(..), xs a name -/
noncomputable def gLm (f : List D → List D → Option (List D × D)) (i : Nat) (gs : FL) : FG := fun ρ => match look ρ i with
  | some (.lst _ _) => (gs ρ).bind fun x => match pNm i x.2 with
    | .ok ⟨l, .lst .own ds, put⟩ => (match f ds x.1 with
      | some (ds', d) => .ok (d, x.2.put l (put (.lst .own ds')))
      | none => .no)
    | _ => .no
  | _ => .no
/-- .. a path; the arguments are quiet -/
noncomputable def gLmP (f : List D → List D → Option (List D × D)) (fp : FP) (m : FMq) : FG := fun ρ => match fp ρ with
  | .ok ⟨l, .lst .own ds, put⟩ => (match m ρ with
    | .ok es => (match f ds es with
      | some (ds', d) => .ok (d, ρ.put l (put (.lst .own ds')))
      | none => .no)
    | .ex x => .ex (x, ρ)
    | .no => .no)
  | .ex x => .ex (x, ρ)
  | _ => .no
section
variable {X : Cx} {W : WX} {e o i : Expr} {es : List Expr} {gs : FL} {m : FMq} {fp : FP} {pos p apos cpos : Pos} {name x : Str} {id T : String} {r : V → List V → Hp → VK → Prop} {f : List D → List D → Option (List D × D)}
theorem lm_name {K : PySem.W.Frag} {σ : L2.St} {H : Hp} {R : VK} {n : Nat} (hr : RML r f) {G0 G B Φ : Hp} {As : List V} {S : Pi → List Addr} {ρ : Plc} {xs : List V} {es : List D} {T : List Addr} {v : V} (rp : VRep K G B Φ H As S σ ρ) (s0 : Same G0 G) (hv : σ[n]? = some (some v)) (hx : Dats K G B H T xs es) (t : TOk T S G Φ H)
    (q : (match pNm n ρ with
      | .ok ⟨l, .lst .own ds, put⟩ => (match f ds es with
        | some (ds', d) => Out.ok (d, ρ.put l (put (.lst .own ds')))
        | none => .no)
      | _ => .no : Out (Exn × Plc) (D × Plc)).P (GK K G0 B Φ As σ R) (GX K W G0 B Φ As σ)) : r v xs H R := by
  unfold pNm at q
  cases hl : ρ.lc n with
  | none => rw [hl] at q; exact q.elim
  | some l =>
    rw [hl] at q
    simp only at q
    cases hg : ρ.get l with
    | none => rw [hg] at q; exact q.elim
    | some d =>
      rw [hg] at q
      simp only at q
      obtain ⟨v1, h1, h2⟩ := rp.lc_at hl
      rw [hv] at h1
      cases h1
      obtain ⟨v', a1, a2, a3, _, _⟩ := rp.takeL hg
      have := Lc.at_eq h2 a1
      subst this
      split at q
      · rename_i l' ds put heq
        cases heq
        cases hf : f ds es with
        | none => rw [hf] at q; exact q.elim
        | some y =>
          rw [hf] at q
          exact lm_core (x := ⟨l, .lst .own ds, id⟩) hr rp s0 hg h2 rfl (.refl a3 a2) hx t hf q
      · exact q.elim
theorem lst_ty {K : PySem.W.Frag} {G B H : Hp} {v : V} {f : Fl} {ds : List D} (gh : Sub G H) (bh : SmN B H) (h : Dt K G B H v (.lst f ds)) : tyV K "list" v H := by
  obtain ⟨p, vs, rfl, hp, _⟩ := dt_lst gh bh h
  exact .inl ⟨rfl, vs, hp⟩
theorem ge_lm (slot : Slot "list" name id) (hty : typeOf (.builtin id) = pure (.type "method_descriptor")) (hm : MtR X id r) (hr : RML r f) (n : Nat) (ha : GL X W (e :: es) gs)
    (hN : X.N[n]? = some x := by rfl) (hv : Vis X.env.scope x := by first | exact Or.inl rfl | exact Or.inr (Or.inl rfl) | exact Or.inr (Or.inr rfl)) (hd : (x == ("__debug__" : Str)) = false := by decide) (hcd : (x == ("__classdict__" : Str)) = false := by decide)
    (hbase : attributeBase (.Name x p) name X.env (eval (.Name x p) X.env) = eval (.Name x p) X.env := by rfl)
    (hfew : ((backTo cpos (starEach (e :: es) X.env)).all (fun x => !x.1) && (backToKw cpos (keywordEach [] X.env)).all (fun x => x.1.isSome)
      && decide ((e :: es).length + ([] : List Keyword).length + (if ([] : List Keyword).isEmpty then 0 else 1) < 30)) = true := by rfl)
    (hline : (apos.endLine == cpos.line) = true := by rfl) (hs : starEach (e :: es) X.env = (false, eval e X.env) :: starEach es X.env := by rfl) (hplain : (backTo cpos (starEach es X.env)).any (·.1) = false := by rfl) :
    GE X W (.Call (.Attribute (.Name x p) name apos) (e :: es) [] cpos) (gLm f n gs) := peI (pe_bm PySem.F.plainAttrs_list slot hty hm (pe_var hN hv hd hcd) ha hbase hfew hline hs hplain) fun σ H R ⟨G, B, Φ, As, S, ρ, rp, q⟩ => by
  unfold gLm at q
  split at q
  · rename_i fl ds0 hl
    obtain ⟨_, v, h1, h2⟩ := rp.so.look hl
    refine ⟨v, h1, lst_ty rp.gh (bh_of rp) h2, G, B, Φ, As, S, ρ, rp, Out.P_mono (Out.P_bind.mp q) (fun y q1 G1 H1 S1 vs T1 s1 r1 hx t1 => ?_) fun _ z => z⟩
    exact lm_name (W := W) hr r1 s1 h1 hx t1 q1
  · exact q.elim
theorem path_ty {K : PySem.W.Frag} {G B H : Hp} {S : List Addr} {v w : V} {f : Fl} {ds : List D} {put : D → D} (gh : Sub G H) (bh : SmN B H) (z : Zip K G B H S v w (.lst f ds) put) : tyV K "list" w H := by
  obtain ⟨S1, S2, _, h, _, _⟩ := z.ex
  exact lst_ty gh bh ⟨_, h⟩
theorem ge_lmP (slot : Slot "list" name id) (hty : typeOf (.builtin id) = pure (.type "method_descriptor")) (hm : MtR X id r) (hr : RML r f) (ho : PP X W o fp) (ha : MQ X W (e :: es) m)
    (hbase : attributeBase o name X.env (eval o X.env) = eval o X.env := by rfl)
    (hfew : ((backTo cpos (starEach (e :: es) X.env)).all (fun x => !x.1) && (backToKw cpos (keywordEach [] X.env)).all (fun x => x.1.isSome)
      && decide ((e :: es).length + ([] : List Keyword).length + (if ([] : List Keyword).isEmpty then 0 else 1) < 30)) = true := by rfl)
    (hline : (apos.endLine == cpos.line) = true := by rfl) (hs : starEach (e :: es) X.env = (false, eval e X.env) :: starEach es X.env := by rfl) (hplain : (backTo cpos (starEach es X.env)).any (·.1) = false := by rfl) :
    GE X W (.Call (.Attribute o name apos) (e :: es) [] cpos) (gLmP f fp m) := peI (pe_bm PySem.F.plainAttrs_list slot hty hm ho ha hbase hfew hline hs hplain) fun σ H R ⟨G, B, Φ, As, S, ρ, rp, q⟩ => by
  unfold gLmP at q
  refine ⟨G, B, Φ, As, S, ρ, rp, ?_⟩
  cases hf : fp ρ with
  | no => rw [hf] at q; exact q.elim
  | ex x => rw [hf] at q; exact EX.of rp q
  | ok x =>
    rw [hf] at q
    split at q
    · rename_i l ds put heq
      cases heq
      intro G1 H1 w e1 pr
      obtain ⟨d0, v0, a1, a2, z⟩ := pr.ex
      have r1 := rp.ext e1
      refine ⟨path_ty r1.gh (bh_of r1) z, G1, B, Φ, As, S, ρ, r1, ?_⟩
      cases hm2 : m ρ with
      | no => rw [hm2] at q; exact q.elim
      | ex x => rw [hm2] at q; exact EX.ext e1 (EX.of rp q)
      | ok es' =>
        rw [hm2] at q
        intro G2 H2 vs T e2 hx t n
        cases hf2 : f ds es' with
        | none => simp only [hf2] at q; exact q.elim
        | some y =>
          simp only [hf2] at q
          exact lm_core (x := ⟨l, .lst .own ds, put⟩) hr (r1.ext e2) (e1.trans e2).g a1 a2 rfl (z.ext e2) hx t hf2 q
    · rename_i heq; cases heq
    · exact q.elim
end
end VL

/-! VLy: stores; instances made. -/
namespace VL
open PySem PySem.Spec PyProof.Rows L2
variable [LamT]

theorem Dats.put {K : PySem.W.Frag} {G B H : Hp} {T : List Addr} {v : V} {d : D} (n : d.old) (hd : Dat K G B H T v d) : ∀ {U : List Addr} {vs : List V} {ds : List D} {j : Nat}, Dats K G B H U vs ds → j < ds.length → ∃ U' L, (U' ++ L).Perm (U ++ T) ∧ Dats K G B H U' (vs.set j v) (ds.set j d)
  | _, _, _, j, .nil, h => by simp at h
  | _, _, _, 0, .cons (S := S0) (T := T0) nn h t, _ => ⟨T ++ T0, S0, by
      have : (T ++ T0 ++ S0).Perm (S0 ++ (T ++ T0)) := List.perm_append_comm
      exact this.trans (by rw [List.append_assoc]; exact (List.perm_append_comm).append_left S0), .cons n hd t⟩
  | _, _, _, j + 1, .cons (S := S0) (T := T0) nn h t, hl => by
    obtain ⟨U', L, p, r⟩ := Dats.put n hd t (by simpa using hl)
    exact ⟨S0 ++ U', L, by rw [List.append_assoc, List.append_assoc]; exact p.append_left S0, .cons nn h r⟩
theorem DatM.app {K : PySem.W.Frag} {G B H : Hp} : ∀ {U T : List Addr} {vs ws : List (Kd × V)} {ds es : List (Kd × D)}, DatM K G B H U vs ds → DatM K G B H T ws es → DatM K G B H (U ++ T) (vs ++ ws) (ds ++ es)
  | _, _, _, _, _, _, .nil, h => h
  | _, _, _, _, _, _, .cons (k := k) n h t, h' => by
    have := DatM.cons (k := k) n h (DatM.app t h')
    rwa [← List.append_assoc] at this
/-- a value owning nothing at a key that is there -/
theorem DatM.swap {K : PySem.W.Frag} {G B H : Hp} {κ : Type} [DecidableEq κ] {f : κ → Kd} (hf : ∀ a b, f a = f b → a = b) {k : κ} {v : V} {d : D} (n : d.old) (hd : Dat K G B H [] v d) : ∀ {U : List Addr} {vs : List (κ × V)} {ds : List (Kd × D)}, DatM K G B H U (vs.map fun e => (f e.1, e.2)) ds → ∃ U' L, (U' ++ L).Perm U ∧ DatM K G B H U' ((vs.map fun e => if e.1 = k then (e.1, v) else e).map fun e => (f e.1, e.2)) (ds.map fun e => if e.1 = f k then (e.1, d) else e)
  | _, [], _, h => by cases h; exact ⟨[], [], .refl _, .nil⟩
  | _, (k0, v0) :: vs, _, h => by
    simp only [List.map_cons] at h
    cases h with
    | @cons S0 T0 _ _ d0 _ ds nn h t =>
      obtain ⟨U', L, p, r⟩ := DatM.swap (k := k) hf n hd t
      by_cases e : k0 = k
      · subst e
        refine ⟨U', L ++ S0, ?_, ?_⟩
        · rw [← List.append_assoc]
          exact (p.append_right S0).trans List.perm_append_comm
        · simp only [List.map_cons, if_true]
          exact DatM.cons (S := []) n hd r
      · refine ⟨S0 ++ U', L, by rw [List.append_assoc]; exact p.append_left S0, ?_⟩
        have e2 : ¬ f k0 = f k := fun z => e (hf _ _ z)
        simp only [List.map_cons, if_neg e, if_neg e2]
        exact .cons nn h r
theorem datm_any {K : PySem.W.Frag} {G B H : Hp} {κ : Type} [DecidableEq κ] {f : κ → Kd} (hf : ∀ a b, f a = f b → a = b) {k : κ} : ∀ {U : List Addr} {vs : List (κ × V)} {ds : List (Kd × D)}, DatM K G B H U (vs.map fun e => (f e.1, e.2)) ds → (vs.any fun e => decide (e.1 = k)) = ds.any fun e => decide (e.1 = f k)
  | _, [], _, h => by cases h; rfl
  | _, (k0, v0) :: vs, _, h => by
    simp only [List.map_cons] at h
    cases h with
    | cons nn h t =>
      have := datm_any hf (k := k) t
      simp only [List.any_cons, this]
      congr 1
      by_cases e : k0 = k
      · subst e; simp
      · have e2 : ¬ f k0 = f k := fun z => e (hf _ _ z)
        simp [e, e2]
theorem getK_any {ds : List (Kd × D)} {k : Kd} (h : getK ds k = none) : (ds.any fun e => decide (e.1 = k)) = false := by
  induction ds with
  | nil => rfl
  | cons e ds ih =>
    obtain ⟨k', d⟩ := e
    rw [getK] at h
    by_cases hk : k' = k
    · rw [if_pos hk] at h; cases h
    · rw [if_neg hk] at h
      simp [hk, ih h]
/-- a key's value -/
theorem DatM.putK {K : PySem.W.Frag} {G B H : Hp} {κ : Type} [DecidableEq κ] {f : κ → Kd} (hf : ∀ a b, f a = f b → a = b) {k : κ} {v : V} {d : D} {T U : List Addr} {vs : List (κ × V)} {ds : List (Kd × D)} (n : d.old) (hd : Dat K G B H T v d) (h : DatM K G B H U (vs.map fun e => (f e.1, e.2)) ds) (hk : d.noOwn = true ∨ getK ds (f k) = none) :
    ∃ U' L, (U' ++ L).Perm (U ++ T) ∧ DatM K G B H U' ((L2.putK vs k v).map fun e => (f e.1, e.2)) (putD ds (f k) d) := by
  unfold L2.putK putD
  rw [datm_any hf (k := k) h]
  by_cases ha : (ds.any fun e => decide (e.1 = f k)) = true
  · rw [if_pos ha, if_pos ha]
    rcases hk with hk | hk
    · have := hd.noS hk
      subst this
      obtain ⟨U', L, p, r⟩ := DatM.swap hf n hd h
      exact ⟨U', L, by simpa using p, r⟩
    · rw [getK_any hk] at ha; cases ha
  · rw [if_neg ha, if_neg ha, List.map_append]
    exact ⟨U ++ T, [], by simp, h.app (by simpa using DatM.cons n hd .nil)⟩
/-- a field's value -/
noncomputable def putFd : List (Kd × D) → Kd → D → List (Kd × D)
  | [], k, d => [(k, d)]
  | (k', x) :: r, k, d => if k' = k then (k', d) :: r else (k', x) :: putFd r k d
theorem DatM.putF {K : PySem.W.Frag} {G B H : Hp} {f : Str} {v : V} {d : D} {T : List Addr} (n : d.old) (hd : Dat K G B H T v d) : ∀ {U : List Addr} {vs : List (Str × V)} {ds : List (Kd × D)}, DatM K G B H U (vs.map kF) ds → ∃ U' L, (U' ++ L).Perm (U ++ T) ∧ DatM K G B H U' ((L2.putF f v vs).map kF) (putFd ds (kS f) d)
  | _, [], _, h => by
    cases h
    exact ⟨T ++ [], [], by simp, .cons n hd .nil⟩
  | _, (k0, v0) :: vs, _, h => by
    simp only [List.map_cons, kF] at h
    cases h with
    | @cons S0 T0 _ _ d0 _ ds nn h t =>
      show ∃ U' L, (U' ++ L).Perm (S0 ++ T0 ++ T) ∧ DatM K G B H U' ((if k0 = f then (k0, v) :: vs else (k0, v0) :: L2.putF f v vs).map kF) (if kS k0 = kS f then (kS k0, d) :: ds else (kS k0, d0) :: putFd ds (kS f) d)
      by_cases e : k0 = f
      · subst e
        rw [if_pos rfl, if_pos rfl]
        refine ⟨T ++ T0, S0, ?_, .cons n hd t⟩
        have : (T ++ T0 ++ S0).Perm (S0 ++ (T ++ T0)) := List.perm_append_comm
        exact this.trans (by rw [List.append_assoc]; exact (List.perm_append_comm).append_left S0)
      · have e2 : ¬ kS k0 = kS f := by simpa using e
        rw [if_neg e, if_neg e2]
        obtain ⟨U', L, p, r⟩ := DatM.putF n hd t
        exact ⟨S0 ++ U', L, by rw [List.append_assoc, List.append_assoc]; exact p.append_left S0, .cons nn h r⟩

/-! ### stores -/
noncomputable def sSubL (fp : FP) (fq : FQ) (ga : FG) : FS := fun ρ => seqE (ga ρ) fun d ρ1 => match fp ρ1 with
  | .ok ⟨l, .lst .own ds, put⟩ => (match fq ρ1 with
    | .ok (.int i) => (match ixN ds.length i with
      | some j => .nx (ρ1.put l (put (.lst .own (ds.set j d))))
      | none => .no)
    | .ex x => .ex x ρ1
    | _ => .no)
  | .ex x => .ex x ρ1
  | _ => .no
noncomputable def sFldF (C : Addr) (f : Str) (fp : FP) (ga : FG) : FS := fun ρ => seqE (ga ρ) fun d ρ1 => match fp ρ1 with
  | .ok ⟨l, .obj .own C' fs, put⟩ => if C' = C ∧ fs.length < 1000 then .nx (ρ1.put l (put (.obj .own C (putFd fs (kS f) d)))) else .no
  | .ex x => .ex x ρ1
  | _ => .no
section
variable {X : Cx} {W : WX} {e o i value : Expr} {pos pos' p : Pos} {fp : FP} {fq : FQ} {ga : FG} {f : Str} {C : Addr}
theorem ex_of {K : PySem.W.Frag} {G0 G B Φ H : Hp} {As : List V} {S : Pi → List Addr} {σ : L2.St} {ρ : Plc} {x : Exn} {E : Ends} (rp : VRep K G B Φ H As S σ ρ) (s : Same G0 G) (q : (OS.ex x ρ).End K W G0 B Φ As E) : EX K W G B H σ x := fun G' H' cls dx e er => q G' H' S σ cls dx (s.trans e.g) (rp.ext e) er
theorem free_ins {C dx : Addr} {vs : List (Str × V)} : HO.free (.ins C dx vs) := HO.free_by (fun _ _ z => by cases z)
theorem on_upd {H : Hp} {a : Addr} {o : HO} {U : List Addr} (na : ∀ b ∈ U, b ≠ a) : On U H (upd H a o) := fun b m u e _ => by rw [upd_ne (na b m)]; exact e
theorem vs_subL (hu : X.A.units + 1 < cLine) (he : GE X W e ga) (ho : PP X W o fp) (hi : QE X W i fq) (hs : swapsWithSole [.Subscript o i pos'] e pos.line X.env = pure false := by rfl) (hw : swappedStores [.Subscript o i pos'] e X.env = pure none := by rfl)
    (h1 : (assignEach [.Subscript o i pos'] X.env).map (·.2) = [assign (.Subscript o i pos') X.env] := by rfl)
    (ha : ∀ v, assign (.Subscript o i pos') X.env v = (do
      let ov ← holding [v] (eval o X.env)
      let iv ← holding [v, ov] (eval i X.env)
      standAt pos'
      holding [v, ov, iv] (setItem ov iv v)
      release [v, ov, iv] []) := by intro _; rfl) : VS X W (.Assign [.Subscript o i pos'] e pos) (sSubL fp fq ga) := psI (ps_asg he (pg_sub ho hi set_list ha) hs hw h1) fun E σ H ⟨G, B, Φ, As, S, ρ, rp, q⟩ =>
  seqE_G rp q fun d ρ1 G1 H1 S1 v T s1 r1 hd n t q1 => by
    refine ⟨G1, B, Φ, As, S1, ρ1, r1, ?_⟩
    cases hf : fp ρ1 with
    | no => rw [hf] at q1; exact q1.elim
    | ex x => rw [hf] at q1; exact ex_of r1 s1 q1
    | ok x =>
      rw [hf] at q1
      split at q1
      · rename_i l ds put heq
        cases heq
        intro G2 H2 w e2 pr
        have r2 := r1.ext e2
        refine ⟨G2, B, As, ρ1, r2.so, ?_⟩
        cases hq : fq ρ1 with
        | no => rw [hq] at q1; exact q1.elim
        | ex x => rw [hq] at q1; exact ex_of r2 (s1.trans e2.g) q1
        | ok k =>
          rw [hq] at q1
          intro G3 H3 u e3 hk fr
          split at q1
          · rename_i i' heq
            cases heq
            cases hj : ixN ds.length i' with
            | none => simp only [hj] at q1; exact q1.elim
            | some j =>
              simp only [hj] at q1
              obtain ⟨d0, v0, a1, a2, z⟩ := pr.ex
              obtain ⟨S1', S2', z1, z2, z3, z4⟩ := (z.ext e3).ex
              have r3 := r2.ext e3
              cases z2 with
              | @lst U _ a vs _ nd hs =>
                have hjl : j < ds.length := (ixN_seq hj).2.1
                have hd3 := hd.mono (e2.g.trans e3.g) (fun _ _ q => q) (On.of (e2.h.trans e3.h))
                obtain ⟨U', L, pm, hs'⟩ := Dats.put n hd3 hs hjl
                refine ⟨a, vs, i', j, rfl, dt_int hk, nd, by rw [hs.length]; exact hj, ?_⟩
                obtain ⟨S', r', _, _⟩ := node_core (x := ⟨l, .lst .own ds, put⟩) (U := U) (U' := U') (T' := []) (L := L) (e' := .lst .own (ds.set j d)) (o' := .lst (vs.set j v)) r3 a1 a2 z1 z4 ((t.ext e2 fun _ _ m => m).ext e3 fun _ _ m => m) (by simpa using pm) free_lst (fun na => .lst (f := .own) upd_same (hs'.mono (fun _ _ q => q) (fun _ _ q => q) (on_upd na))) (by simp [D.root])
                exact q1 G3 _ S' σ (s1.trans (e2.g.trans e3.g)) r'
          · rename_i heq; cases heq
          · exact q1.elim
      · rename_i heq; cases heq
      · exact q1.elim
theorem vs_fld (c : Cls X.K C) (nf : NoAttr X.K C f) (he : GE X W value ga) (ho : PP X W o fp) (hs : swapsWith value (some (.Attribute o f pos')) pos.line X.env = pure false := by rfl) : VS X W (.Assign [.Attribute o f pos'] value pos) (sFldF C f fp ga) := psI (ps_fld ho he hs) fun E σ H ⟨G, B, Φ, As, S, ρ, rp, q⟩ =>
  seqE_G rp q fun d ρ1 G1 H1 S1 v T s1 r1 hd n t q1 => by
    refine ⟨G1, B, Φ, As, S1, ρ1, r1, ?_⟩
    cases hf : fp ρ1 with
    | no => rw [hf] at q1; exact q1.elim
    | ex x => rw [hf] at q1; exact ex_of r1 s1 q1
    | ok x =>
      rw [hf] at q1
      split at q1
      · rename_i l C' fs put heq
        cases heq
        by_cases hc : C' = C ∧ fs.length < 1000
        · rw [if_pos hc] at q1
          obtain ⟨rfl, hl⟩ := hc
          intro G2 H2 w e2 pr
          have r2 := r1.ext e2
          have hd3 := hd.mono e2.g (fun _ _ q => q) (On.of e2.h)
          obtain ⟨d0, v0, a1, a2, z⟩ := pr.ex
          obtain ⟨S1', S2', z1, z2, z3, z4⟩ := z.ex
          cases z2 with
          | @obj U _ a _ dx vs _ nd hs =>
            obtain ⟨U', L, pm, hs'⟩ := DatM.putF (f := f) n hd3 hs
            have hl2 : vs.length = fs.length := by simpa using hs.length
            refine ⟨a, C', dx, vs, rfl, nd, c, nf, by rw [hl2]; exact hl, ?_⟩
            obtain ⟨S', r', _, _⟩ := node_core (x := ⟨l, .obj .own C' fs, put⟩) (U := U) (U' := U') (T' := []) (L := L) (e' := .obj .own C' (putFd fs (kS f) d)) (o' := .ins C' dx (L2.putF f v vs)) r2 a1 a2 z1 z4 (t.ext e2 fun _ _ m => m) (by simpa using pm) free_ins (fun na => .obj (f := .own) (dx := dx) upd_same (hs'.mono (fun _ _ q => q) (fun _ _ q => q) (on_upd na))) (by simp [D.root])
            exact q1 G2 _ S' σ (s1.trans e2.g) r'
        · rw [if_neg hc] at q1; exact q1.elim
      · rename_i heq; cases heq
      · exact q1.elim
end
end VL

/-! VLz: instances made; dicts; the end of a law. -/
namespace VL
open PySem PySem.Spec PyProof.Rows L2
variable [LamT]

/-! ### instances made -/
noncomputable abbrev mkH (C : Addr) (H : Hp) (a b : Addr) : Hp := upd (upd H b (.own a)) a (.ins C b [])
section
variable {X : Cx} {W : WX} {pos p : Pos} {x : Str} {e : Expr} {es : List Expr} {k n : Nat} {C : Addr}
theorem run_mkS {CX : CXT} {f : Addr} {fd : FuncData} {ps : List Str} {sp : Sp} {E : XK} {pins : List (Addr × Obj)} {σ : L2.St} {H : Hp} {s : Shared} {Q : VK} {us : List Value} {vs : List V} (M : Mk X.K C f) (F : FnOk X.prog X.w X.K X.mg X.base CX k f fd ps sp) (hr : Room (k + 1) X.A) (hb : Binds X.K fd ps [])
    (hx : PassesAt CX X σ E) (I : Inv X pins σ H s) (r : Vals vs us) (h : ∀ a b, H a = none → H b = none → b ≠ a → sp (.ref a :: vs) (mkH C H a b) (fun v H2 => v = .non ∧ Q (.ref a) H2) E) :
    wpAny (model X.prog X.w) X.A (call (.ref C) us) (EP X pins σ Q) X.xe s := by
  have new0 := I.hok.fresh (Nat.le_refl s.heap.objs.size)
  have new1 := I.hok.fresh (Nat.le_succ s.heap.objs.size)
  have ask := h _ _ new1 new0 (Nat.ne_of_lt (Nat.lt_succ_self _))
  have J := Inv.made (C := C) I
  have rv : Vals (V.ref (s.heap.objs.size + 1) :: vs) (Value.ref (s.heap.objs.size + 1) :: us) := .cons rfl r
  have len : (Value.ref (s.heap.objs.size + 1) :: us ++ []).length = ps.length := by
    rw [List.append_nil, ← rv.length, F.len _ _ _ _ ask]
  have bd := hb _ (Value.ref (s.heap.objs.size + 1) :: us) J.kIn len
  rw [List.append_nil] at bd
  have run := F.run _ X.stack _ _ ⟨Value.ref (s.heap.objs.size + 1) :: us, []⟩ _ _ _ E (hr.make C us []) (J.env0.make C us []) bd rv ask
  refine wpAny_call (make_map (f := f) I.kIn M.makes M.init (beq_iff_eq.mp M.fn) (codeAny_mono run fun r s' q => ?_))
  match r, q with
  | .error e, q => exact hx pins _ _ e s' J q
  | .ok (.ret u), q =>
    obtain ⟨v, H', I3, rel, ev, q3⟩ := J.after q
    subst ev
    exact ⟨rel, ⟨V.ref (s.heap.objs.size + 1), H', I3, rfl, q3⟩⟩
  | .ok .next, q => exact q.elim
  | .ok .brk, q => exact q.elim
  | .ok .cont, q => exact q.elim
theorem pe_mkS {CX : CXT} {f : Addr} {fd : FuncData} {ps : List Str} {sp : Sp} {E : L2.St → XK} {t : TA} (M : Mk X.K C f) (F : FnOk X.prog X.w X.K X.mg X.base CX k f fd ps sp) (hr : Room (k + 1) X.A) (hg : Gl X x) (hm : X.mg x = some (.ref C)) (hb : Binds X.K fd ps []) (hx : ∀ σ, PassesAt CX X σ (E σ)) (ha : PA X (e :: es) t)
    (hdb : (x == ("__debug__" : Str)) = false) (he : starEach (e :: es) X.env = (false, eval e X.env) :: starEach es X.env) (hpl : (backTo pos (starEach es X.env)).any (·.1) = false) :
    PE X (.Call (.Name x p) (e :: es) [] pos) (fun σ H Q => t σ H fun vs H1 => ∀ a b, H1 a = none → H1 b = none → b ≠ a → sp (.ref a :: vs) (mkH C H1 a b) (fun v H2 => v = .non ∧ Q (.ref a) H2) (E σ)) := by
  constructor
  intro pins s σ H Q I h
  refine wpAny_Call_Name_kw (ld_glob I hg hm ?_ hdb)
  have step := thn (ha.run pos pins s σ H _ I h) fun us s1 ⟨vs, H1, I1, r, q⟩ => (⟨I1.kIn, run_mkS M F hr hb (hx σ) I1 r q⟩ : X.K.In s1.heap ∧ _)
  exact PySem.W.callWith_K (h₀ := X.base) I.ok.mod.kin M.kp step he hpl
end
noncomputable def makeG (o : OF) (hs : List (Option Lc)) (ρ : Plc) : Out (Exn × Plc) (D × Plc) := match o with
  | .rt .non (some d :: os) => .ok (d, putH hs os ρ)
  | .ex x (_ :: os) => .ex (x, putH hs os ρ)
  | _ => .no
noncomputable def gMake (C : Addr) (F : Fn) (f : FAr) : FG := fun ρ => (f ρ).bind fun x => makeG (F (.obj .own C [] :: x.1)) x.2.1 x.2.2
noncomputable def shift (a : Addr) (Sa : Nat → List Addr) : Nat → List Addr
  | 0 => [a]
  | j + 1 => Sa j
theorem rdy_make {K : PySem.W.Frag} {W : WX} {G B Φ H : Hp} {As : List V} {S : Pi → List Addr} {σ : L2.St} {ρ : Plc} {ms : List Md} {Sa : Nat → List Addr} {vs : List V} {es : List D} {hs : List (Option Lc)} {F : Fn} {C : Addr} {R : VK} (rd : Rdy K G B Φ H As S σ ρ ms Sa vs es hs)
    (q : (makeG (F (.obj .own C [] :: es)) hs ρ).P (GK K G B Φ As σ R) (GX K W G B Φ As σ)) (a b : Addr) (ha : H a = none) (hb : H b = none) (hba : b ≠ a) : liftF K (.m :: ms) F (.ref a :: vs) (mkH C H a b) (fun v H2 => v = .non ∧ R (.ref a) H2) (WE W σ) := by
  have e1 : Ext G H G (upd H b (.own a)) := Ext.lay rd.rep.gh hb
  have e2 : Ext G (upd H b (.own a)) G (mkH C H a b) := Ext.lay e1.gh (by rw [upd_ne (Ne.symm hba)]; exact ha)
  have e := e1.trans e2
  have eS : Same H (mkH C H a b) := (same_upd hb).trans (same_upd (by rw [upd_ne (Ne.symm hba)]; exact ha))
  have r0 := rd.rep.ext e
  obtain ⟨ga, pa, sa⟩ := rd.rep.none_of ha
  have na : ∀ j, a ∉ Sa j := fun j m => by
    obtain ⟨_, _, _, o, z, _⟩ := (rd.tok j).2 a m
    rw [ha] at z; cases z
  have tT : ∀ y, (∃ j, y ∈ shift a Sa j) → y = a ∨ ∃ j, y ∈ Sa j := fun y ⟨j, m⟩ => by
    cases j with
    | zero => exact .inl (by simpa [shift] using m)
    | succ j => exact .inr ⟨j, m⟩
  have le : Same (less G (fun y => ∃ j, y ∈ Sa j) H) (less G (fun y => ∃ j, y ∈ shift a Sa j) (mkH C H a b)) := fun y o h => by
    obtain ⟨h1, h2, h3⟩ := less_of h
    refine less_at (eS y o h1) h2 fun z => ?_
    rcases tT y z with rfl | z
    · rw [ha] at h1; cases h1
    · exact h3 z
  have hS : ∀ i, ∀ y ∈ S i, ¬ ∃ j, y ∈ shift a Sa j := fun i y m z => by
    rcases tT y z with rfl | ⟨j, z⟩
    · exact sa i m
    · exact ((rd.tok j).2 y z).1 i m
  have hP : ∀ y, (∃ j, y ∈ shift a Sa j) → Φ y = none := fun y z => by
    rcases tT y z with rfl | ⟨j, z⟩
    · exact pa
    · exact ((rd.tok j).2 y z).2.2.1
  have cin : CIn K G (less G (fun y => ∃ j, y ∈ shift a Sa j) (mkH C H a b)) (mkH C H a b) (.m :: ms) (shift a Sa) (.ref a :: vs) (.obj .own C [] :: es) := by
    refine ⟨e.gh, .of fun y o z => (less_of z).1, fun y o z => (less_of z).2.1, by simp [rd.vl], by simp [rd.dl], fun j md v d h1 h2 h3 => ?_, ⟨fun j => ?_, fun i j y hij m => ?_, fun j y m => ⟨?_, ?_, ?_⟩⟩⟩
    · cases j with
      | zero =>
        simp at h1 h2 h3
        subst h1 h2 h3
        exact ⟨.obj (f := .own) (dx := b) (vs := []) upd_same .nil, by simp [D.root], rfl⟩
      | succ j =>
        obtain ⟨q1, q2⟩ := rd.at' j md v d (by simpa using h1) (by simpa using h2) (by simpa using h3)
        exact ⟨q1.mono (fun _ _ z => z) le (On.of e.h), q2⟩
    · cases j with
      | zero => simp [shift]
      | succ j => exact (rd.tok j).1
    · cases i with
      | zero =>
        have : y = a := by simpa [shift] using m
        subst this
        cases j with
        | zero => exact absurd rfl hij
        | succ j => exact na j
      | succ i =>
        cases j with
        | zero => intro z; have : y = a := by simpa [shift] using z
                  subst this; exact na i m
        | succ j => exact rd.dj i j y (by simpa using hij) m
    · cases j with
      | zero => have : y = a := by simpa [shift] using m
                subst this; exact ga
      | succ j => exact ((rd.tok j).2 y m).2.1
    · cases z : less G (fun y => ∃ j, y ∈ shift a Sa j) (mkH C H a b) y with
      | none => rfl
      | some u => exact absurd ⟨j, m⟩ (less_of z).2.2
    · cases j with
      | zero => have : y = a := by simpa [shift] using m
                subst this; exact ⟨_, upd_same, free_ins⟩
      | succ j =>
        obtain ⟨_, _, _, o, h1, h2⟩ := (rd.tok j).2 y m
        exact ⟨o, eS y o h1, h2⟩
  -- what is left, put back
  have back : ∀ {G' H' : Hp} {Sa' : Nat → List Addr} {o0 : Option D} {os : List (Option D)}, Left G (less G (fun y => ∃ j, y ∈ shift a Sa j) (mkH C H a b)) G' H' → COut K G' (less G (fun y => ∃ j, y ∈ shift a Sa j) (mkH C H a b)) H' (.m :: ms) Sa' (.ref a :: vs) (o0 :: os) →
      ∃ S', VRep K G' B Φ H' As S' σ (putH hs os ρ) ∧ TOk (Sa' 0) S' G' Φ H' := fun {G' H' Sa' o0 os} L co => by
    obtain ⟨r1, r2, r3⟩ := r0.left hS hP L
    obtain ⟨S', r', q'⟩ := VRep.putH (Sa' := Sa') (os := os) (Sx := fun _ => True) 1 hs os r1 (fun j l d h1 h2 => by
      obtain ⟨b1, b2⟩ := rd.back j l h1
      obtain ⟨d', v, c1, c2, c3, c4, c5⟩ := co.at' (1 + j) (by rw [Nat.add_comm]; simpa using b1)
      rw [show (o0 :: os)[1 + j]? = os[j]? by rw [Nat.add_comm]; simp, h2] at c1
      cases c1
      rw [show (V.ref a :: vs)[1 + j]? = vs[j]? by rw [Nat.add_comm]; simp] at c2
      exact ⟨v, b2 v c2, c3.anyB c5, c4, co.rg.nd _, fun y m => by
        obtain ⟨g1, g2, g3⟩ := co.rg.fr _ y m
        refine ⟨g1, ?_, g3⟩
        cases z : Φ y with
        | none => rfl
        | some u => exact absurd g2 (r3 y u z)⟩) (fun j _ y m i z => r2 i y z (co.rg.fr j y m).2.1) co.rg.dj
    refine ⟨S', r', co.rg.nd 0, fun y m => ?_⟩
    obtain ⟨g1, g2, g3⟩ := co.rg.fr 0 y m
    refine ⟨fun i z => ?_, g1, ?_, g3⟩
    · rcases q' i y z with ⟨j, z⟩ | ⟨j, h1, z⟩
      · exact r2 j y z g2
      · exact co.rg.dj 0 j y (by omega) m z
    · cases z : Φ y with
      | none => rfl
      | some u => exact absurd g2 (r3 y u z)
  refine ⟨G, _, shift a Sa, .obj .own C [] :: es, cin, ?_⟩
  unfold makeG at q
  cases hF : F (.obj .own C [] :: es) with
  | no => rw [hF] at q; exact q.elim
  | rt d os =>
    rw [hF] at q
    split at q
    · rename_i d1 os' heq
      cases heq
      intro G' H' Sa' v T L co hd n nb t1 t2
      obtain ⟨S', r', t⟩ := back L co
      obtain ⟨d', v', c1, c2, c3, c4, c5⟩ := co.at' 0 rfl
      simp at c1 c2
      subst c1 c2
      exact ⟨dt_non ⟨_, hd⟩, q G' H' S' _ _ L.g r' (c3.anyB c5) c4 t⟩
    · rename_i heq; cases heq
    · exact q.elim
  | ex x os =>
    rw [hF] at q
    split at q
    · rename_i heq; cases heq
    · rename_i x' o0 os' heq
      cases heq
      intro G' H' Sa' cls dx L co er pl
      obtain ⟨S', r', t⟩ := back L co
      exact q G' H' S' cls dx L.g r' (exn_plain er pl)
    · exact q.elim
section
variable {X : Cx} {W : WX} {pos p : Pos} {x : Str} {e : Expr} {es : List Expr} {k : Nat} {ms : List Md} {F : Fn} {f : FAr} {C : Addr}
theorem ge_make (mk : PySem.W.makesIn X.K C = true) (kp : PySem.W.keepIn X.K (.ref C) = true) (hm : X.mg x = some (.ref C)) (F' : VMt X.prog X.w X.K X.mg X.base C "__init__" k (.m :: ms) F) (hr : Room (k + 1) X.A) (tk : Takes X W) (ha : CA X W (e :: es) ms f) (hg : Gl X x := by rfl) (hdb : (x == ("__debug__" : Str)) = false := by decide)
    (he : starEach (e :: es) X.env = (false, eval e X.env) :: starEach es X.env := by rfl) (hpl : (backTo pos (starEach es X.env)).any (·.1) = false := by rfl) : GE X W (.Call (.Name x p) (e :: es) [] pos) (gMake C F f) := by
  obtain ⟨fa, fd, ps, F', hme, hb⟩ := F'.ex
  refine peI (pe_mkS ⟨mk, hme.at_, hme.fn, kp⟩ F' hr hg hm hb (fun σ => passAt tk σ) ha hdb he hpl) fun σ H R ⟨G, B, Φ, As, S, ρ, r, q⟩ => ?_
  exact ⟨G, B, Φ, As, S, ρ, r, Out.P_mono (Out.P_bind.mp q) (fun x q1 G' H' S' Sa vs s rd a b h1 h2 h3 => rdy_make rd (Out.P_mono q1 (fun _ k => k.mono s) fun _ k => k.mono s) a b h1 h2 h3) fun _ z => z⟩
end

/-! ### new dicts -/
section
variable {X : Cx} {W : WX} {pos apos cpos : Pos} {o e f : Expr} {fo fe ff : FQ}
end

/-! ### the end of a law -/
noncomputable def spLawV (K : PySem.W.Frag) : Sp := fun vs H Q _ => ∃ (a : Addr) (ns : List Int), vs = [.ref a] ∧ SqL K H a (ns.map V.int) ∧ ns.length ≤ 63 ∧ ∀ H', Q (.bl true) H'
theorem ints_dats {K : PySem.W.Frag} {G B H : Hp} : ∀ ns : List Int, Dats K G B H [] (ns.map V.int) (ns.map D.int)
  | [] => .nil
  | s :: ss => .cons (S := []) (by simp [D.root]) (.int s) (ints_dats ss)
theorem ints_all {p : Fl → Bool} : ∀ ns : List Int, D.allFL p (ns.map D.int) = true
  | [] => rfl
  | n :: ns => by rw [List.map_cons, D.allFL, ints_all ns]; rfl
theorem law_spT {K : PySem.W.Frag} {vs : List V} {H : Hp} {Q : VK} {E : XK} {F : Fn} (hT : LamX.Tabs LamT.T H) (hF : ∀ ns : List Int, ns.length ≤ 63 → ∃ os, F [.lst .loc (ns.map D.int)] = .rt (.bl true) os) (h : spLawV K vs H Q E) : liftF K [.r] F vs H Q E := by
  obtain ⟨a, ns, rfl, hS, hl, k⟩ := h
  obtain ⟨os, e⟩ := hF ns hl
  refine ⟨fun _ => none, H, fun _ => [], [.lst .loc (ns.map D.int)], ⟨⟨⟨fun _ _ e => (by cases e), fun _ _ e => (by cases e)⟩, hT⟩, .refl, fun _ _ _ => rfl, rfl, rfl, fun j md v d h1 h2 h3 => ?_, .nil⟩, ?_⟩
  · cases j with
    | zero =>
      simp at h1 h2 h3
      subst h1 h2 h3
      exact ⟨.lok (.inl hS) (ints_dats ns), rfl, by simp [D.lent, D.allF, lentF, ints_all]⟩
    | succ j => simp at h1
  · rw [e]
    intro G' H' Sa' v T L co hd n nb t1 t2
    rw [dt_bl ⟨_, hd⟩]
    exact k H'
omit [LamT] in
theorem walk {l : PySem.W.OpenLaw} {q : Program} {loose : List Str} {XP : (Str → Option Value) → Heap → Prop} {YP : World → Heap → Prop} {d : DefRec} {K : Params → PySem.W.Frag} {k : Nat} (hn : l.most = some 63) (hdf : d.params.defaults = []) (hroom : Room k callerA)
    (hY : ∀ (w : World) (h : Heap), YP w h → (K w.params).In h)
    (F : ∀ (w : World) (mg : Str → Option Value) (fa : Addr) (h : Heap), (K w.params).In h → h.Ns mainGlobals mg → mg d.name = some (.ref fa) →
      ∃ fd : FuncData, (∀ (s : Shared) (u : Value), BindsTo s fd ⟨[u], []⟩ [("_law_script", u)]) ∧ ∀ base : Heap, (K w.params).In base → base.Ns mainGlobals mg → FnOk l.prog w (K w.params) mg base (L2.CX l.prog w) k fa fd ["_law_script"] (spLawV (K w.params))) :
    PySem.W.WalkO q loose XP YP l.row.toRowW d [] (fun f vs => PySem.call f vs) :=
  L2.walk_of (n := 63) (k := k) (x := "_law_script") (CX := fun w => L2.CX l.prog w) (sp := fun w => spLawV (K w.params)) hn (by decide) hdf hroom hY F (fun _ _ a ns hl _ hS => ⟨a, ns, rfl, hS, hl, fun _ => rfl⟩) fun _ _ _ _ _ z => by
    obtain ⟨_, _, _, _, _, _, _, _, _, _, _, _, z⟩ := z
    exact z.elim
end VL
namespace VL
open PySem PySem.Spec PyProof.Rows L2
theorem law_sp {K : PySem.W.Frag} {vs : List V} {H : Hp} {Q : VK} {E : XK} {F : Fn} (hF : ∀ ns : List Int, ns.length ≤ 63 → ∃ os, F [.lst .loc (ns.map D.int)] = .rt (.bl true) os) (h : spLawV K vs H Q E) : liftF K [.r] F vs H Q E := law_spT (fun p hp => by cases hp) hF h
end VL

/-! VMa: errors; what the top has written. -/
namespace VL
open PySem PySem.Spec PyProof.Rows L2
variable [LamT]

/-! ### errors -/
/-- an exception class of the text, over ValueError at the end -/
structure ExK (K : PySem.W.Frag) (mg : Str → Option Value) (x : Str) (C : Addr) : Prop where
  g : mg x = some (.ref C)
  x : PySem.W.excIn K C [.type "ValueError", .type "Exception", .type "BaseException", .type "object"] "ValueError.__new__" = true
  k : PySem.W.keepIn K (.ref C) = true
  b : PySem.W.subIn K (.ref C) (.type "BaseException") = some true
  t : PySem.W.typeIn K (.ref C) = some (.type "type")
noncomputable def sRaise (C : Addr) : FS := fun ρ => .ex ⟨.ref C, none⟩ ρ
noncomputable def OS.calm : OS → OS
  | .ex _ _ => .no
  | o => o
/-- how the error that a suite holds is known -/
structure Held (K : PySem.W.Frag) (y : Exn) (cls : Value) (d : Option Addr) : Prop where
  c : cls = y.cls
  d : y.flds = none → d = none
section
variable {X : Cx} {W : WX} {pos p p2 np pos' : Pos} {x m n : Str} {C : Addr} {c : Value} {i : Nat} {body suite : List Stmt} {b₀ : Stmt} {tb : FS} {ts : Exn → Addr → FS}
theorem vs_raise {j : Nat} {pos2 : Pos} (hc : X.calm = true) (tk : Takes X W) (T : ExK X.K X.mg x C) (hg : Gl X x := by rfl) (hdb : (x == ("__debug__" : Str)) = false := by decide) : VS X W (.Raise (some (.Call (.Name x p) [.Constant (.str m) j p2] [] pos)) none pos2) (sRaise C) :=
  psI (ps_raise hc tk (pmk_own PySem.F.excBase_ValueError T.x T.g T.k (raises_own T.b T.t) hg hdb)) fun E σ H ⟨G, B, Φ, As, S, ρ, rp, q⟩ => q G H S σ (.ref C) none (fun _ _ e => e) rp ⟨rfl, rfl⟩
end
/-! ### names of the module -/
/-- a constant of the module's top, by its tree -/
noncomputable def DConst (K : PySem.W.Frag) (mg : Str → Option Value) (x : Str) (d : D) : Prop := ∃ (u : Value) (v : V), mg x = some u ∧ RelV v u ∧ d.old ∧ ∀ G B H, Dat K G B H [] v d
theorem hu65 {k : Nat} {A : Around} (hr : Room k A) : A.units + 65 < cLine := by have := hr.un; omega
theorem hu1 {k : Nat} {A : Around} (hr : Room k A) : A.units + 1 < cLine := by have := hr.un; omega
section
variable {X : Cx} {W : WX} {pos : Pos} {x : Str} {C : Addr}
theorem qe_const {d : D} (h : DConst X.K X.mg x d) (hg : Gl X x := by rfl) (hdb : (x == ("__debug__" : Str)) = false := by decide) : QE X W (.Name x pos) (qC d) := by
  obtain ⟨u, v, hm, r, n, hd⟩ := h
  exact qe_glob hm r hd n hg hdb
theorem qe_ty {n : String} (hm : X.mg x = none) (hv : bootBuiltins x = some (.type n) := by decide +kernel) (hg : Gl X x := by rfl) (hn : x ≠ "__name__" := by decide) (hdb : (x == ("__debug__" : Str)) = false := by decide) : QE X W (.Name x pos) (qC (.ty n)) := qe_bltn (v := .ty n) hm hv rfl (fun _ _ _ => .ty n) (by simp [D.root]) hg hn hdb
end
section
variable {K : PySem.W.Frag} {mg : Str → Option Value} {h : Heap}
theorem topFn_mk {x : Str} {st : Stmt} {ps : List Str} {f : Addr} {oc : Value} {od an : Option Addr} {osl : Array (Option Value)} {kV doc pm cdv ct : Value} (X : K.In h) (G : h.Ns mainGlobals mg) (a : PySem.W.nsIn K mainGlobals x = some (some (.ref f)))
    (l : K.lookup f = some ⟨oc, od, .func (PySem.W.fnOf x x (defArgs st) (defBody st) (defScope st) .none kV doc pm an cdv ct), osl⟩) (c : PySem.W.codeIn K cdv x = true) (k : PySem.W.keepIn K (.ref f) = true)
    (b : ∀ (kV doc pm : Value) (an : Option Addr) (cdv ct : Value) (us : List Value), us.length = ps.length → bindArgs (PySem.W.fnOf x x (defArgs st) (defBody st) (defScope st) .none kV doc pm an cdv ct) ⟨us, []⟩ = pure (ps.zip us)) : TopFn K mg x st ps :=
  ⟨f, _, fun_mk l c k, PySem.W.mg_of X G a, (fun_mk (st := st) l c k).binds b⟩
theorem topMt_mk {m qual : Str} {st : Stmt} {ps : List Str} {C f : Addr} {oc : Value} {od an : Option Addr} {osl : Array (Option Value)} {kV doc pm cdv ct : Value} (a : PySem.W.findIn K (.ref C) m = some (some (.ref f))) (i : PySem.W.isFn K (.ref f) = true)
    (l : K.lookup f = some ⟨oc, od, .func (PySem.W.fnOf m qual (defArgs st) (defBody st) (defScope st) .none kV doc pm an cdv ct), osl⟩) (c : PySem.W.codeIn K cdv qual = true) (k : PySem.W.keepIn K (.ref f) = true)
    (b : ∀ (kV doc pm : Value) (an : Option Addr) (cdv ct : Value) (us : List Value), us.length = ps.length → bindArgs (PySem.W.fnOf m qual (defArgs st) (defBody st) (defScope st) .none kV doc pm an cdv ct) ⟨us, []⟩ = pure (ps.zip us)) : TopMt K C m qual st ps :=
  ⟨f, _, fun_mk l c k, ⟨a, i, k⟩, (fun_mk (st := st) l c k).binds b⟩
theorem const_str {x : Str} {z : Str} {t : Tok} (X : K.In h) (G : h.Ns mainGlobals mg) (a : PySem.W.nsIn K mainGlobals x = some (some (.str z t))) : DConst K mg x (.str z) := ⟨_, .str z, PySem.W.mg_of X G a, ⟨t, rfl⟩, by simp [D.root], fun _ _ _ => .str z⟩
theorem const_int {x : Str} {z : Int} {t : Tok} (X : K.In h) (G : h.Ns mainGlobals mg) (a : PySem.W.nsIn K mainGlobals x = some (some (.int z t))) : DConst K mg x (.int z) := ⟨_, .int z, PySem.W.mg_of X G a, ⟨t, rfl⟩, by simp [D.root], fun _ _ _ => .int z⟩
/-- a tuple of flat things -/
inductive FlatIs : Value → V → D → Prop
  | str (z : Str) (t : Tok) : FlatIs (.str z t) (.str z) (.str z)
  | int (z : Int) (t : Tok) : FlatIs (.int z t) (.int z) (.int z)
inductive FlatsAre : List Value → List V → List D → Prop
  | nil : FlatsAre [] [] []
  | cons {u : Value} {v : V} {d : D} {us : List Value} {vs : List V} {ds : List D} (h : FlatIs u v d) (t : FlatsAre us vs ds) : FlatsAre (u :: us) (v :: vs) (d :: ds)
theorem FlatsAre.vals {us : List Value} {vs : List V} {ds : List D} (h : FlatsAre us vs ds) : Vals vs us := by
  induction h with
  | nil => exact .nil
  | cons h r ih => cases h with
    | str z t => exact .cons ⟨t, rfl⟩ ih
    | int z t => exact .cons ⟨t, rfl⟩ ih
end
section
variable {K : PySem.W.Frag} {a b : Addr} {r : Bool} {T : String} {cs : List Value}
end
theorem VFn.le {P : Program} {w : World} {K : PySem.W.Frag} {mg : Str → Option Value} {base : Heap} {x : Str} {k : Nat} {ms : List Md} {F F' : Fn} (h : VFn P w K mg base x k ms F) (e : F = F') : VFn P w K mg base x k ms F' := e ▸ h
end VL

/-! VMb: what lives in a loop's round alone. -/
namespace VL
open PySem PySem.Spec PyProof.Rows L2
variable [LamT]
noncomputable def OS.killO (is : List Nat) : OS → OS
  | .nx ρ => .nx (ρ.kill is)
  | .bk ρ => .bk (ρ.kill is)
  | .ct ρ => .ct (ρ.kill is)
  | o => o
noncomputable def sKillO (is : List Nat) (a : FS) : FS := fun ρ => (a ρ).killO is
theorem vss_killO {X : Cx} {W : WX} {is : List Nat} {st : List Stmt} {f : FS} (h : VSs X W st f) : VSs X W st (sKillO is f) := pssI h fun E σ H ⟨G, B, Φ, As, S, ρ, rp, q⟩ => by
  refine ⟨G, B, Φ, As, S, ρ, rp, ?_⟩
  unfold sKillO at q
  cases e : f ρ with
  | no => rw [e] at q; exact q
  | rt d ρ1 => rw [e] at q; exact q
  | ex x ρ1 => rw [e] at q; exact q
  | nx ρ1 => rw [e] at q; exact fun G1 H1 S1 σ1 s1 r1 => let ⟨S2, r2⟩ := r1.kill is; q G1 H1 S2 σ1 s1 r2
  | bk ρ1 => rw [e] at q; exact fun G1 H1 S1 σ1 s1 r1 => let ⟨S2, r2⟩ := r1.kill is; q G1 H1 S2 σ1 s1 r2
  | ct ρ1 => rw [e] at q; exact fun G1 H1 S1 σ1 s1 r1 => let ⟨S2, r2⟩ := r1.kill is; q G1 H1 S2 σ1 s1 r2
theorem up_chain {K : PySem.W.Frag} {W : WX} {fa fb fc : FQ} {r r' : R2} {f g : D → D → Out Exn D} (hv : V2 K r f) (hv' : V2 K r' g) {σ : L2.St} {H : Hp} {R : VK} (h : upQ K W (qChain f g fa fb fc) σ H R) : tChain r r' (upQ K W fa) (upQ K W fb) (upQ K W fc) σ H R := by
  obtain ⟨G, B, As, ρ, so, q⟩ := h
  exact upQ_bind so q fun d G1 H1 v e1 hd fr q1 => upQ_bind (so.ext e1) (Out.P_mono q1 (fun _ k => KQ.ext e1 k) fun _ z => EX.ext e1 z) fun d2 G2 H2 v2 e2 hd2 fr2 q2 =>
    have so2 := (so.ext e1).ext e2
    hv.go G2 B H2 v v2 d d2 _ e2.gh so2.bh (Dt.ext e2 hd) hd2 (Out.P_mono (pure_P (Out.P_bind.mp q2)) (fun dz q3 G3 H3 z e3 hz _ => by
      cases dz with
      | bl k =>
        refine ⟨k, dt_bl hz, ?_⟩
        cases k with
        | false => exact iteF (q3 G3 H3 _ (e2.trans e3) ⟨_, .bl false⟩ (Fresh.of (by simp [D.root])))
        | true => exact iteT (upQ_bind (so2.ext e3) (Out.P_mono q3 (fun _ k => KQ.ext (e2.trans e3) k) fun _ z => EX.ext (e2.trans e3) z) fun d4 G4 H4 v4 e4 hd4 fr4 q4 =>
            hv'.go G4 B H4 v2 v4 d2 d4 R e4.gh ((so2.ext e3).ext e4).bh (Dt.ext (e3.trans e4) hd2) hd4 (Out.P_mono (pure_P q4) (fun _ k => k.ext e4) fun _ z => z))
      | _ => exact q3.elim) fun _ z => z)
theorem qt_chain {X : Cx} {W : WX} {a b c : Expr} {fa fb fc : FQ} {pos : Pos} {op op' : CmpOp} {r r' : R2} {f g : D → D → Out Exn D} (ho : OpR X (compareOp op) r) (ho' : OpR X (compareOp op') r') (hv : V2 X.K r f) (hv' : V2 X.K r' g) (ha : QE X W a fa) (hb : QE X W b fb) (hc : QE X W c fc)
    (hm : lastMarks [op, op'] [b, c] = false := by with_unfolding_all rfl) : QT X W (.Compare a [op, op'] [b, c] pos) (tV (qChain f g fa fb fc)) := ptI (pt_chain ho ho' ha hb hc hm) fun σ H R h => up_chain hv hv' (up_b h)
end VL

/-! VMc: a loop that takes the elements of a list out. -/
namespace VL
open PySem PySem.Spec PyProof.Rows L2
variable [LamT]

theorem TOk.unhold {T U : List Addr} {S : Pi → List Addr} {G Φ H H0 : Hp} (t : TOk T S G (hold Φ U H0) H) (hU : ∀ a ∈ U, Φ a = none) : TOk T S G Φ H := ⟨t.1, fun a m => by
  obtain ⟨h1, h2, h3, h4⟩ := t.2 a m
  refine ⟨h1, h2, ?_, h4⟩
  by_cases z : a ∈ U
  · exact hU a z
  · rw [hold_ne z] at h3; exact h3⟩
/-- the region aside, behind what has gone on -/
theorem hold_tok {K : PySem.W.Frag} {G B Φ H0 G2 H2 : Hp} {As : List V} {S0 S2 : Pi → List Addr} {σ2 : L2.St} {ρ2 : Plc} {U : List Addr} (t : TOk U S0 G Φ H0) (r2 : VRep K G2 B (hold Φ U H0) H2 As S2 σ2 ρ2) : On U H0 H2 ∧ TOk U S2 G2 Φ H2 := by
  have on : On U H0 H2 := fun a m o e n => r2.ph a o (by rw [hold_at m]; exact e) n
  refine ⟨on, t.1, fun a m => ?_⟩
  obtain ⟨_, _, h3, o, h4, h5⟩ := t.2 a m
  have e : hold Φ U H0 a = some o := by rw [hold_at m]; exact h4
  refine ⟨fun i z => ?_, r2.dis a o e, h3, o, on a m o h4 h5.n, h5⟩
  rw [(r2.fr i a z).2.1] at e; cases e
end VL

/-! VMd: how the functions are reckoned, from the left. -/
namespace VL
open PySem PySem.Spec PyProof.Rows L2
variable [LamT]

section
variable {ε α β : Type}
theorem bind_ok {a : α} {f : α → Out ε β} : (Out.ok a : Out ε α).bind f = f a := rfl
theorem bind_ex {e : ε} {f : α → Out ε β} : (Out.ex e : Out ε α).bind f = .ex e := rfl
theorem bind_no {f : α → Out ε β} : (Out.no : Out ε α).bind f = .no := rfl
theorem pure_ok {a : α} : (Out.ok a : Out Exn α).pure = .ok a := rfl
theorem pure_ex {e : Exn} : (Out.ex e : Out Exn α).pure = .no := rfl
theorem pure_no : (Out.no : Out Exn α).pure = .no := rfl
theorem seqE_ok {x : α × Plc} {k : α → Plc → OS} : seqE (.ok x) k = k x.1 x.2 := rfl
theorem seqE_ex {x : Exn × Plc} {k : α → Plc → OS} : seqE (.ex x) k = .ex x.1 x.2 := rfl
theorem seqE_no {k : α → Plc → OS} : seqE (.no) k = .no := rfl
end
theorem seqS_nx {ρ : Plc} {k : FS} : seqS (.nx ρ) k = k ρ := rfl
theorem seqS_rt {d : D} {ρ : Plc} {k : FS} : seqS (.rt d ρ) k = .rt d ρ := rfl
theorem seqS_ex {x : Exn} {ρ : Plc} {k : FS} : seqS (.ex x ρ) k = .ex x ρ := rfl
theorem seqS_bk {ρ : Plc} {k : FS} : seqS (.bk ρ) k = .bk ρ := rfl
theorem seqS_ct {ρ : Plc} {k : FS} : seqS (.ct ρ) k = .ct ρ := rfl
theorem seqS_no {k : FS} : seqS .no k = .no := rfl
section
variable {ρ : Plc} {a b : FS} {ga gb : FG} {fa fb fc : FQ} {t u : FGT} {tt uu : FT} {gs : FGA} {gl : FL} {fas : FA} {f : D → D → Out Exn D} {i : Nat} {is : List Nat}
-- statements
theorem sNext_ap : sNext ρ = .nx ρ := rfl
theorem sRetN_ap : sRetN ρ = .rt .non ρ := rfl
theorem sSeq_ap : sSeq a b ρ = seqS (a ρ) b := rfl
theorem sDrop_ap : sDrop ga ρ = seqE (ga ρ) fun _ ρ1 => .nx ρ1 := rfl
theorem sRet_ap : sRet ga ρ = seqE (ga ρ) fun d ρ1 => .rt d ρ1 := rfl
theorem sSet_ap : sSet i ga ρ = seqE (ga ρ) fun d ρ1 => .nx (ρ1.setS i (.val d)) := rfl
noncomputable def condS (a b : FS) (c : Bool) : FS := fun ρ => if c = true then a ρ else b ρ
theorem sIf_ap : sIf t a b ρ = seqE (t ρ) (condS a b) := rfl
theorem condS_t : condS a b true ρ = a ρ := rfl
theorem condS_f : condS a b false ρ = b ρ := rfl
theorem sKillO_ap : sKillO is a ρ = (a ρ).killO is := rfl
theorem killO_nx : (OS.nx ρ).killO is = .nx (ρ.kill is) := rfl
theorem killO_bk : (OS.bk ρ).killO is = .bk (ρ.kill is) := rfl
theorem killO_ct : (OS.ct ρ).killO is = .ct (ρ.kill is) := rfl
theorem killO_rt {d : D} : (OS.rt d ρ).killO is = .rt d ρ := rfl
theorem killO_ex {x : Exn} : (OS.ex x ρ).killO is = .ex x ρ := rfl
theorem kill_cons {k : Nat} : ρ.kill (k :: is) = (ρ.setS k .no).kill is := rfl
theorem kill_nil : ρ.kill [] = ρ := rfl
theorem sRaise_ap {C : Addr} : sRaise C ρ = .ex ⟨.ref C, none⟩ ρ := rfl
noncomputable def forK (tg : Tg) (body : FS) (ds : List D) : FS := forV tg body ds
theorem sFor_ap {gi : FGI} {tg : Tg} : sFor gi tg a ρ = seqE (gi ρ) (forK tg a) := rfl
theorem forK_ap {tg : Tg} {ds : List D} : forK tg a ds ρ = forV tg a ds ρ := rfl
theorem setS_mk {s : List Sl} {A : List (Option D)} {x : Sl} : (⟨s, A⟩ : Plc).setS i x = ⟨s.set i x, A⟩ := rfl
theorem setA_mk {s : List Sl} {A : List (Option D)} {x : Option D} : (⟨s, A⟩ : Plc).setA i x = ⟨s, A.set i x⟩ := rfl
noncomputable def lookS (A : List (Option D)) : Option Sl → Option D
  | some (.val d) => some d
  | some (.arg j) => (A[j]?).bind id
  | _ => none
theorem look_mk {s : List Sl} {A : List (Option D)} : look ⟨s, A⟩ i = lookS A (s[i]?) := by unfold look lookS; split <;> simp_all
theorem lookS_val {A : List (Option D)} {d : D} : lookS A (some (.val d)) = some d := rfl
theorem lookS_arg {A : List (Option D)} {j : Nat} : lookS A (some (.arg j)) = (A[j]?).bind id := rfl
noncomputable def oD : Option D → Out Exn D
  | some d => .ok d
  | none => .no
theorem qV_ap : qV i ρ = oD (look ρ i) := rfl
theorem oD_some {d : D} : oD (some d) = .ok d := rfl
noncomputable def lcS (i : Nat) : Option Sl → Option Lc
  | some (.val _) => some (.s i)
  | some (.arg j) => some (.a j)
  | _ => none
theorem lc_mk {s : List Sl} {A : List (Option D)} : (⟨s, A⟩ : Plc).lc i = lcS i (s[i]?) := by unfold Plc.lc lcS; split <;> simp_all
theorem lcS_val {d : D} : lcS i (some (.val d)) = some (.s i) := rfl
theorem lcS_arg {j : Nat} : lcS i (some (.arg j)) = some (.a j) := rfl
theorem get_s {s : List Sl} {A : List (Option D)} : (⟨s, A⟩ : Plc).get (.s i) = (match s[i]? with
  | some (.val d) => some d
  | _ => none) := rfl
theorem get_a {s : List Sl} {A : List (Option D)} : (⟨s, A⟩ : Plc).get (.a i) = (A[i]?).bind id := rfl
theorem rm_s : ρ.rm (.s i) = ρ.setS i .no := rfl
theorem rm_a : ρ.rm (.a i) = ρ.setA i none := rfl
theorem put_s {d : D} : ρ.put (.s i) d = ρ.setS i (.val d) := rfl
theorem put_a {d : D} : ρ.put (.a i) d = ρ.setA i (some d) := rfl
theorem view_mk {s : List Sl} {A : List (Option D)} : (⟨s, A⟩ : Plc).view = ⟨s.map Sl.view, A.map (Option.map D.view)⟩ := rfl
theorem Sl.view_val {d : D} : Sl.view (.val d) = .val d.view := rfl
theorem Sl.view_arg {j : Nat} : Sl.view (.arg j) = .arg j := rfl
theorem Sl.view_no : Sl.view .no = .no := rfl
theorem wipe_nil : ρ.wipe [] = ρ := rfl
theorem wipe_cons {k : Nat} {vs : List Nat} : ρ.wipe (k :: vs) = (ρ.wipe vs).setS k .no := rfl
-- quiet
theorem qC_ap {d : D} : qC d ρ = .ok d := rfl
theorem qOp_ap : qOp f fa fb ρ = (fa ρ).bind fun x => (fb ρ).bind fun y => (f x y).pure := rfl
theorem qCB_ap {g : List D → Out Exn D} : qCB g fas ρ = (fas ρ).bind fun xs => (g xs).pure := rfl
theorem aNil_ap : aNil ρ = .ok [] := rfl
theorem aCons_ap : aCons fa fas ρ = (fa ρ).bind fun d => (fas ρ).bind fun ds => .ok (d :: ds) := rfl
theorem tV_ap : tV fa ρ = (fa ρ).bind toB := rfl
theorem tNot_ap : tNot tt ρ = (tt ρ).bind fun b => .ok (!b) := rfl
noncomputable def condT (uu : FT) (ρ : Plc) (z : Bool) (b : Bool) : Out Exn Bool := if b = z then uu ρ else .ok (!z)
theorem tOr_ap : tOr tt uu ρ = (tt ρ).bind (condT uu ρ false) := by
  unfold tOr condT
  congr 1
  funext b
  cases b <;> rfl
theorem condT_y {z : Bool} : condT uu ρ z z = uu ρ := by unfold condT; rw [if_pos rfl]
theorem condT_tf : condT uu ρ true false = .ok false := rfl
theorem condT_ft : condT uu ρ false true = .ok true := rfl
theorem tYes_ap : tYes ρ = .ok true := rfl
theorem qNot_ap : qNot fa ρ = (fa ρ).bind fun d => (toB d).bind fun b => .ok (.bl (!b)) := rfl
noncomputable def condQ (fb : FQ) (ρ : Plc) (z : Bool) (b : Bool) : Out Exn D := if b = z then fb ρ else .ok (.bl (!z))
theorem qAnd_ap : qAnd fa fb ρ = (fa ρ).bind fun d => (toB d).bind (condQ fb ρ true) := rfl
theorem qOr_ap : qOr fa fb ρ = (fa ρ).bind fun d => (toB d).bind (condQ fb ρ false) := by
  unfold qOr condQ
  congr 1
  funext d
  congr 1
  funext b
  cases b <;> rfl
theorem condQ_y {z : Bool} : condQ fb ρ z z = fb ρ := by unfold condQ; rw [if_pos rfl]
theorem condQ_tf : condQ fb ρ true false = .ok (.bl false) := rfl
theorem condQ_ft : condQ fb ρ false true = .ok (.bl true) := rfl
theorem qTup_ap : qTup fas ρ = (fas ρ).bind mkTup := rfl
theorem qLst_ap : qLst fas ρ = (fas ρ).bind mkLst := rfl
theorem qFld_ap {C : Addr} {x : Str} : qFld C x fa ρ = (fa ρ).bind (fldD C x) := rfl
theorem oNone_ap : oNone ρ = .ok none := rfl
theorem oSome_ap : oSome fa ρ = (fa ρ).bind fun d => (toI d).bind fun i => .ok (some i) := rfl
theorem qSl_ap {g : D → Option Int → Option Int → Out Exn D} {fl fh : FO} : qSl g fa fl fh ρ = (fa ρ).bind fun x => (fl ρ).bind fun l => (fh ρ).bind fun h => (g x l h).pure := rfl
theorem qLc_ap {fi : FI} {tg : Tg} {vs : List Nat} : qLc fi tg tt fa vs ρ = (fi ρ).bind fun ds => (compV tg tt fa (ρ.wipe vs) ds).bind mkLc := rfl
theorem iSeq_ap : iSeq fa ρ = (fa ρ).bind fun d => ofO (itemsD d) := rfl
theorem iRange_ap {r : List D → Option (List D)} : iRange r fas ρ = (fas ρ).bind fun xs => ofO (r xs) := rfl
theorem qCall_ap {ms : List Md} {F : Fn} : qCall ms F fas ρ = (fas ρ).bind (callQ ms F) := rfl
theorem qMeth_ap {C : Addr} {m : Str} {ms : List Md} {F : Fn} : qMeth C m ms F fa fas ρ = (fa ρ).bind fun o => if isObj C m o = true then (fas ρ).bind fun ds => callQ ms F (o :: ds) else .no := rfl
noncomputable def liftO (o : Out Exn D) (ρ : Plc) : Out (Exn × Plc) (D × Plc) := match o with
  | .ok d => if d.free = true then .ok (d.up, ρ) else .no
  | .ex x => .ex (x, ρ)
  | .no => .no
theorem gQ_ap : gQ fa ρ = liftO (fa ρ) ρ := rfl
theorem liftO_ok {d : D} : liftO (.ok d) ρ = if d.free = true then .ok (d.up, ρ) else .no := rfl
theorem liftO_ex {x : Exn} : liftO (.ex x) ρ = .ex (x, ρ) := rfl
noncomputable def liftT (o : Out Exn Bool) (ρ : Plc) : Out (Exn × Plc) (Bool × Plc) := match o with
  | .ok d => .ok (d, ρ)
  | .ex x => .ex (x, ρ)
  | .no => .no
theorem gQT_ap : gQT tt ρ = liftT (tt ρ) ρ := rfl
theorem liftT_ok {b : Bool} : liftT (.ok b) ρ = .ok (b, ρ) := rfl
theorem liftT_ex {x : Exn} : liftT (.ex x) ρ = .ex (x, ρ) := rfl
theorem gMove_mk {s : List Sl} {A : List (Option D)} : gMove i ⟨s, A⟩ = (match s[i]? with
  | some (.val d) => .ok (d, ⟨s.set i .no, A⟩)
  | _ => .no) := rfl
theorem gFz_mk {s : List Sl} {A : List (Option D)} : gFz i ⟨s, A⟩ = (match s[i]? with
  | some (.val d) => .ok (d.fz, ⟨s.set i (.val d.fz), A⟩)
  | _ => .no) := rfl
noncomputable def gOpK (f : D → D → Out Exn D) (gb : FG) (x : D × Plc) : Out (Exn × Plc) (D × Plc) := if x.1.noOwn = true then (gb x.2).bind fun y => finG (f x.1 y.1) y.2 else .no
theorem gOp_ap : gOp f ga gb ρ = (ga ρ).bind (gOpK f gb) := rfl
theorem gOpK_ap {d : D} : gOpK f gb (d, ρ) = if d.noOwn = true then (gb ρ).bind fun y => finG (f d y.1) y.2 else .no := rfl
theorem finG_ok {d : D} : finG (.ok d) ρ = if d.free = true then .ok (d.up, ρ) else .no := rfl
theorem gNil_ap : gNil ρ = .ok ([], ρ) := rfl
noncomputable def gConsK (gs : FGA) (x : D × Plc) : Out (Exn × Plc) (List D × Plc) := (gs x.2).bind fun ds => .ok (x.1.fz :: ds.1, ds.2)
theorem gCons_ap : gCons ga gs ρ = (ga ρ).bind (gConsK gs) := rfl
theorem gConsK_ap {d : D} : gConsK gs (d, ρ) = (gs ρ).bind fun ds => .ok (d.fz :: ds.1, ds.2) := rfl
theorem lNil_ap : lNil ρ = .ok ([], ρ) := rfl
noncomputable def lConsK (gl : FL) (x : D × Plc) : Out (Exn × Plc) (List D × Plc) := (gl x.2).bind fun ds => .ok (x.1 :: ds.1, ds.2)
theorem lCons_ap : lCons ga gl ρ = (ga ρ).bind (lConsK gl) := rfl
theorem lConsK_ap {d : D} : lConsK gl (d, ρ) = (gl ρ).bind fun ds => .ok (d :: ds.1, ds.2) := rfl
theorem gTupL_ap : gTupL gl ρ = (gl ρ).bind mkTupG := rfl
theorem gLstL_ap : gLstL gl ρ = (gl ρ).bind mkLstG := rfl
theorem gSt_ap : gSt ga ρ = (ga ρ).bind fun x => .ok (x.1.fz, x.2) := rfl
theorem gTV_ap : gTV ga ρ = (ga ρ).bind fun x => match x.1 with
  | .bl b => .ok (b, x.2)
  | _ => .no := rfl
theorem giSeq_ap : giSeq ga ρ = (ga ρ).bind fun x => ofOG (itemsD x.1.fz) x.2 := rfl
theorem giRange_ap {r : List D → Option (List D)} : giRange r gs ρ = (gs ρ).bind fun x => ofOG (r x.1) x.2 := rfl
theorem ofOG_some {α : Type} {x : α} : ofOG (some x) ρ = .ok (x, ρ) := rfl
theorem ofO_some {α : Type} {x : α} : ofO (some x) = .ok x := rfl
noncomputable def gCallK (F : Fn) (x : List D × List (Option Lc) × Plc) : Out (Exn × Plc) (D × Plc) := afterG (F x.1) x.2.1 x.2.2
theorem gCall_ap {F : Fn} {g : FAr} : gCall F g ρ = (g ρ).bind (gCallK F) := rfl
theorem gCallK_ap {F : Fn} {es : List D} {hs : List (Option Lc)} : gCallK F (es, hs, ρ) = afterG (F es) hs ρ := rfl
theorem afterG_rt {d : D} {os : List (Option D)} {hs : List (Option Lc)} : afterG (.rt d os) hs ρ = .ok (d, putH hs os ρ) := rfl
theorem afterG_ex {x : Exn} {os : List (Option D)} {hs : List (Option Lc)} : afterG (.ex x os) hs ρ = .ex (x, putH hs os ρ) := rfl
noncomputable def gMakeK (C : Addr) (F : Fn) (x : List D × List (Option Lc) × Plc) : Out (Exn × Plc) (D × Plc) := makeG (F (.obj .own C [] :: x.1)) x.2.1 x.2.2
theorem gMake_ap {C : Addr} {F : Fn} {g : FAr} : gMake C F g ρ = (g ρ).bind (gMakeK C F) := rfl
theorem gMakeK_ap {C : Addr} {F : Fn} {es : List D} {hs : List (Option Lc)} : gMakeK C F (es, hs, ρ) = makeG (F (.obj .own C [] :: es)) hs ρ := rfl
theorem makeG_rt {d : D} {os : List (Option D)} {hs : List (Option Lc)} : makeG (.rt .non (some d :: os)) hs ρ = .ok (d, putH hs os ρ) := rfl
theorem makeG_ex {x : Exn} {o : Option D} {os : List (Option D)} {hs : List (Option Lc)} : makeG (.ex x (o :: os)) hs ρ = .ex (x, putH hs os ρ) := rfl
noncomputable def gLmK (f : List D → List D → Option (List D × D)) (i : Nat) (x : List D × Plc) : Out (Exn × Plc) (D × Plc) := match pNm i x.2 with
  | .ok ⟨l, .lst .own ds, put⟩ => (match f ds x.1 with
    | some (ds', d) => .ok (d, x.2.put l (put (.lst .own ds')))
    | none => .no)
  | _ => .no
noncomputable def isLst : Option D → Bool
  | some (.lst _ _) => true
  | _ => false
theorem gLm_ap {f : List D → List D → Option (List D × D)} : gLm f i gl ρ = if isLst (look ρ i) = true then (gl ρ).bind (gLmK f i) else .no := by
  unfold gLm
  cases look ρ i with
  | none => rfl
  | some d => cases d <;> rfl
theorem isLst_ap {fl : Fl} {ds : List D} : isLst (some (.lst fl ds)) = true := rfl
theorem gLmK_ap {f : List D → List D → Option (List D × D)} {es : List D} : gLmK f i (es, ρ) = match pNm i ρ with
  | .ok ⟨l, .lst .own ds, put⟩ => (match f ds es with
    | some (ds', d) => .ok (d, ρ.put l (put (.lst .own ds')))
    | none => .no)
  | _ => .no := rfl
noncomputable def pNmK (i : Nat) (ρ : Plc) : Option Lc → Out Exn Pt
  | some l => (match ρ.get l with
    | some d => .ok ⟨l, d, id⟩
    | none => .no)
  | none => .no
theorem pNm_ap : pNm i ρ = pNmK i ρ (ρ.lc i) := rfl
theorem pNmK_some {l : Lc} : pNmK i ρ (some l) = (match ρ.get l with
    | some d => .ok ⟨l, d, id⟩
    | none => .no) := rfl
theorem fnF_ap {n : Nat} {ms : List Md} {body : FS} {ds : List D} : fnF n ms body ds = finF ms (body (startP n ms ds)) := rfl
theorem finF_rt {ms : List Md} {d : D} : finF ms (.rt d ρ) = if d.noBor = true ∧ okA ms ρ.a = true then .rt d ρ.a else .no := rfl
theorem finF_nx {ms : List Md} : finF ms (.nx ρ) = if okA ms ρ.a = true then .rt .non ρ.a else .no := rfl
theorem finF_ex {ms : List Md} {x : Exn} : finF ms (.ex x ρ) = if x.plain = true ∧ okA ms ρ.a = true then .ex x ρ.a else .no := rfl
noncomputable def subK (fp : FP) (fq : FQ) (d : D) : FS := fun ρ1 => match fp ρ1 with
  | .ok ⟨l, .lst .own ds, put⟩ => (match fq ρ1 with
    | .ok (.int i) => (match ixN ds.length i with
      | some j => .nx (ρ1.put l (put (.lst .own (ds.set j d))))
      | none => .no)
    | .ex x => .ex x ρ1
    | _ => .no)
  | .ex x => .ex x ρ1
  | _ => .no
theorem sSubL_ap {fp : FP} : sSubL fp fa ga ρ = seqE (ga ρ) (subK fp fa) := rfl
theorem subK_ap {fp : FP} {d : D} : subK fp fa d ρ = match fp ρ with
  | .ok ⟨l, .lst .own ds, put⟩ => (match fa ρ with
    | .ok (.int i) => (match ixN ds.length i with
      | some j => .nx (ρ.put l (put (.lst .own (ds.set j d))))
      | none => .no)
    | .ex x => .ex x ρ
    | _ => .no)
  | .ex x => .ex x ρ
  | _ => .no := rfl
noncomputable def faQK (as : List Ag) (ρ : Plc) : Option (List (Option (Lc × D)) × Plc) → Out (Exn × Plc) (List D × List (Option Lc) × Plc)
  | none => .no
  | some (hs, ρ0) => (match evalA as hs ρ ρ0.view with
    | .ok es => .ok (es, hs.map (Option.map Prod.fst), ρ0)
    | .ex x => .ex (x, ρ)
    | .no => .no)
theorem faQ_ap {as : List Ag} : faQ as ρ = faQK as ρ (takeH (as.map Ag.sl) ρ) := rfl
theorem faQK_some {as : List Ag} {hs : List (Option (Lc × D))} {ρ0 : Plc} : faQK as ρ (some (hs, ρ0)) = (match evalA as hs ρ ρ0.view with
    | .ok es => .ok (es, hs.map (Option.map Prod.fst), ρ0)
    | .ex x => .ex (x, ρ)
    | .no => .no) := rfl
end
-- values, by their kinds
section
variable {i j : Int} {x y : Str} {b c : Bool} {xs ys : List D} {f g : Fl}
theorem addV_i : VL.addV (.int i) (.int j) = .ok (.int (i + j)) := rfl
theorem addV_s : VL.addV (.str x) (.str y) = if x.length + y.length ≤ sizeLine then .ok (.str (x ++ y)) else .no := rfl
theorem addV_l : VL.addV (.lst f xs) (.lst g ys) = if f ≠ .loc ∧ g ≠ .loc ∧ xs.length + ys.length ≤ sizeLine then .ok (.lst .new (xs ++ ys)) else .no := rfl
theorem addV_t : VL.addV (.tup xs) (.tup ys) = if xs.length + ys.length ≤ sizeLine then .ok (.tup (xs ++ ys)) else .no := rfl
theorem mulV_i : mulV (.int i) (.int j) = if mulOk i j then .ok (.int (i * j)) else .no := rfl
theorem fdivV_i : fdivV (.int i) (.int j) = if divOk j then .ok (.int (i / j)) else .no := rfl
theorem modV_i : modV (.int i) (.int j) = if 0 < j then .ok (.int (i % j)) else .no := rfl
theorem ltV_i : ltV (.int i) (.int j) = .ok (.bl (decide (i < j))) := rfl
theorem leV_i : leV (.int i) (.int j) = .ok (.bl (decide (i ≤ j))) := rfl
theorem gtV_i : gtV (.int i) (.int j) = .ok (.bl (decide (i > j))) := rfl
theorem eqV_i : VL.eqV (.int i) (.int j) = .ok (.bl (decide (i = j))) := rfl
theorem eqV_s : VL.eqV (.str x) (.str y) = .ok (.bl (decide (x = y))) := rfl
theorem eqV_b : VL.eqV (.bl b) (.bl c) = .ok (.bl (decide (b = c))) := rfl
theorem neV_i : VL.neV (.int i) (.int j) = .ok (.bl (!decide (i = j))) := rfl
theorem neV_s : VL.neV (.str x) (.str y) = .ok (.bl (!decide (x = y))) := rfl
theorem neV_b : VL.neV (.bl b) (.bl c) = .ok (.bl (!decide (b = c))) := rfl
theorem ixV_t : ixV (.tup xs) (.int i) = ofO (atI xs i) := rfl
theorem ixV_tk : ixV (.tuk xs) (.int i) = ofO (atI xs i) := rfl
theorem ixV_l : ixV (.lst f xs) (.int i) = ofO (atI xs i) := rfl
theorem ixV_s : ixV (.str x) (.int i) = if x.length ≤ sizeLine then ofO ((atI x.cps.toList i).map fun c => .str ⟨#[c]⟩) else .no := rfl
theorem lenN_l : lenN (.lst f xs) = some xs.length := rfl
theorem lenN_t : lenN (.tup xs) = some xs.length := rfl
theorem lenV_ap {d : D} : lenV [d] = ofO ((lenN d).map fun n => .int (n : Nat)) := rfl
theorem atI_nat {α : Type} {zs : List α} {n : Nat} (h : n < zs.length) : atI zs (n : Int) = zs[n]? := by
  unfold atI ixN
  rw [if_pos (Int.natCast_nonneg n), if_pos (by exact_mod_cast h)]
  rfl
theorem ixN_nat {m n : Nat} (h : n < m) : ixN m (n : Int) = some n := by
  unfold ixN
  rw [if_pos (Int.natCast_nonneg n), if_pos (by exact_mod_cast h)]
  rfl
theorem at_0 {α : Type} {a : α} {zs : List α} : atI (a :: zs) 0 = some a := atI_nat (n := 0) (by simp)
theorem at_1 {α : Type} {a b : α} {zs : List α} : atI (a :: b :: zs) 1 = some b := atI_nat (n := 1) (by simp)
theorem at_2 {α : Type} {a b c : α} {zs : List α} : atI (a :: b :: c :: zs) 2 = some c := atI_nat (n := 2) (by simp)
theorem at_3 {α : Type} {a b c d : α} {zs : List α} : atI (a :: b :: c :: d :: zs) 3 = some d := atI_nat (n := 3) (by simp)
theorem ix_0 {m : Nat} : ixN (m + 1) 0 = some 0 := ixN_nat (n := 0) (by omega)
theorem ix_1 {m : Nat} : ixN (m + 2) 1 = some 1 := ixN_nat (n := 1) (by omega)
theorem ix_2 {m : Nat} : ixN (m + 3) 2 = some 2 := ixN_nat (n := 2) (by omega)
theorem mulOk_l (h : -(2 ^ 64) < i ∧ i < 2 ^ 64) : mulOk i j := .inl h
theorem mulOk_r (h : -(2 ^ 64) < j ∧ j < 2 ^ 64) : mulOk i j := .inr (.inl h)
theorem divOk_of (h : 0 < j) (h2 : j < 2 ^ 64) : divOk j := ⟨h, by
  have : j.natAbs < 2 ^ 64 := by omega
  exact Nat.lt_of_lt_of_le this (Nat.pow_le_pow_right (by decide) (by decide))⟩
end
theorem strs_all {p : Fl → Bool} : ∀ zs : List Str, D.allFL p (zs.map D.str) = true
  | [] => rfl
  | z :: zs => by rw [List.map_cons, D.allFL, strs_all zs]; rfl
theorem sz_le {n : Nat} (h : n ≤ 64) : (n ≤ sizeLine) = True := eq_true (Nat.le_trans h (by decide))
theorem sz_lt {n : Nat} (h : n ≤ 64) : (n < sizeLine) = True := eq_true (Nat.lt_of_le_of_lt h (by decide))
theorem allFL_map {α : Type} {p : Fl → Bool} {g : α → D} {xs : List α} (h : ∀ x, (g x).allF p = true) : D.allFL p (xs.map g) = true := by
  rw [allFL_eq, List.all_eq_true]
  intro d m
  obtain ⟨x, _, rfl⟩ := List.mem_map.mp m
  exact h x
/-- a loop's first round -/
theorem forV_nil {tg : Tg} {b : FS} {ρ : Plc} : forV tg b [] ρ = .nx ρ := rfl
theorem forV_nx {tg : Tg} {b : FS} {d : D} {ds : List D} {ρ ρ1 ρ2 : Plc} (h : tg.put d ρ = some ρ1) (h2 : b ρ1 = .nx ρ2) : forV tg b (d :: ds) ρ = forV tg b ds ρ2 := by simp only [forV, h, h2]
theorem put_nm {i : Nat} {d : D} {ρ : Plc} : Tg.put (.nm i) d ρ = some (ρ.setS i (.val d)) := by simp only [Tg.put]
theorem rng1_ap {n : Nat} (h : n < 2 ^ 62) : rng1 [.int (n : Int)] = some (rngD 0 n) := by
  show (if okR (n : Int) then some (rngD 0 (n : Int).toNat) else none) = _
  rw [if_pos (show okR (n : Int) by unfold okR; omega)]
  simp

/-! ### comprehensions, membership -/
theorem compV_filter {tg : Tg} {tt : FT} {te : FQ} {ρ : Plc} {α : Type} {g h : α → D} {p : α → Bool} : ∀ xs : List α, (∀ x ∈ xs, ∃ ρ1, tg.put (g x) ρ = some ρ1 ∧ tt ρ1 = .ok (p x) ∧ (p x = true → te ρ1 = .ok (h x) ∧ (h x).st.noOwn = true)) → compV tg tt te ρ (xs.map g) = .ok ((xs.filter p).map fun x => (h x).st)
  | [], _ => rfl
  | x :: xs, H => by
    obtain ⟨ρ1, h1, h2, h3⟩ := H x (by simp)
    have ih := compV_filter xs fun y m => H y (by simp [m])
    simp only [List.map_cons, compV, h1, h2, pure_ok, bind_ok, ih]
    cases hp : p x with
    | true =>
      obtain ⟨h4, h5⟩ := h3 hp
      simp only [if_true, h4, h5, pure_ok, bind_ok, List.filter_cons, hp, List.map_cons]
    | false => simp only [Bool.false_eq_true, if_false, List.filter_cons, hp]
theorem compV_map {tg : Tg} {tt : FT} {te : FQ} {ρ : Plc} {α : Type} {g h : α → D} (xs : List α) (H : ∀ x ∈ xs, ∃ ρ1, tg.put (g x) ρ = some ρ1 ∧ tt ρ1 = .ok true ∧ te ρ1 = .ok (h x) ∧ (h x).st = h x ∧ (h x).noOwn = true) : compV tg tt te ρ (xs.map g) = .ok (xs.map h) := by
  rw [compV_filter (p := fun _ => true) (h := h) xs fun x m => by
    obtain ⟨ρ1, h1, h2, h3, h4, h5⟩ := H x m
    exact ⟨ρ1, h1, h2, fun _ => ⟨h3, by rw [h4]; exact h5⟩⟩]
  congr 1
  rw [List.filter_eq_self.mpr (fun _ _ => rfl)]
  exact List.map_congr_left fun x m => by obtain ⟨_, _, _, _, h4, _⟩ := H x m; exact h4
theorem flatDs_strs : ∀ ns : List Str, flatDs (ns.map D.str) = some (ns.map V.str)
  | [] => rfl
  | n :: ns => by simp only [List.map_cons, flatDs, flatD, flatDs_strs ns]
theorem inV_strs {z : Str} {ns : List Str} : L2.inV (.str z) (ns.map V.str) = decide (z ∈ ns) := by
  unfold L2.inV
  induction ns with
  | nil => simp
  | cons n ns ih =>
    simp only [List.map_cons, List.any_cons, ih, List.mem_cons]
    by_cases e : n = z
    · subst e; simp [L2.eqV]
    · have e2 : ¬ z = n := fun q => e q.symm
      simp [L2.eqV, e, e2]
theorem inU_strs {f : Fl} {z : Str} {ns : List Str} : inU (.str z) (.lst f (ns.map D.str)) = .ok (.bl (decide (z ∈ ns))) := by
  unfold inU inB
  simp only [flatD, flatDs_strs, inV_strs]
  rfl
theorem ninU_strs {f : Fl} {z : Str} {ns : List Str} : ninU (.str z) (.lst f (ns.map D.str)) = .ok (.bl (!decide (z ∈ ns))) := by
  unfold ninU inB
  simp only [flatD, flatDs_strs, inV_strs]
  rfl

/-! ### quiet calls reckoned -/
noncomputable def callK (F : Fn) : Option (List D) → Out Exn D
  | some es => resQ (F es)
  | none => .no
theorem callQ_ap {ms : List Md} {F : Fn} {ds : List D} : callQ ms F ds = callK F (giveQ ms ds) := rfl
theorem callK_some {F : Fn} {es : List D} : callK F (some es) = resQ (F es) := rfl
theorem giveQ_nil : giveQ [] [] = some [] := rfl
theorem giveQ_r {ms : List Md} {d : D} {ds : List D} : giveQ (.r :: ms) (d :: ds) = (giveQ ms ds).map (d.view :: ·) := rfl
theorem giveQ_s {ms : List Md} {d : D} {ds : List D} : giveQ (.s :: ms) (d :: ds) = (giveQ ms ds).map (d.see :: ·) := rfl
theorem giveQ_k {ms : List Md} {d : D} {ds : List D} : giveQ (.k :: ms) (d :: ds) = if d.st.kept = true then (giveQ ms ds).map (d.st :: ·) else none := rfl
theorem resQ_rt {d : D} {os : List (Option D)} : resQ (.rt d os) = .ok d.q := rfl
theorem resQ_ex {x : Exn} {os : List (Option D)} : resQ (.ex x os) = .ex x := rfl
theorem isi_of {d : D} {s t : String} {b : Bool} (h : tyD d = some s) (h2 : kitB s t = some b) : isiV [d, .ty t] = .ok (.bl b) := by
  unfold isiV
  simp only [h, Option.bind_some, h2, Option.map_some, ofO_some]
theorem allV_bls {f : Fl} {bs : List Bool} : allV [.lst f (bs.map D.bl)] = .ok (.bl (bs.all id)) := by
  unfold allV
  simp only [blsD_map, Option.map_some, ofO_some]
theorem qChain_ap {f g : D → D → Out Exn D} {fa fb fc : FQ} {ρ : Plc} : qChain f g fa fb fc ρ = (fa ρ).bind fun x => (fb ρ).bind fun y => (f x y).pure.bind fun z => match z with
  | .bl true => (fc ρ).bind fun w => (g y w).pure
  | .bl false => .ok (.bl false)
  | _ => .no := rfl
theorem lenN_s {z : Str} : lenN (.str z) = if z.length ≤ sizeLine then some z.length else none := rfl
theorem q_str {z : Str} : (D.str z).q = .str z := rfl
theorem q_int {i : Int} : (D.int i).q = .int i := rfl
theorem q_bl {b : Bool} : (D.bl b).q = .bl b := rfl
theorem q_non : D.non.q = .non := rfl
theorem q_tup {xs : List D} : (D.tup xs).q = .tup (D.mapFL fzF xs) := rfl
theorem q_lst {xs : List D} : (D.lst .own xs).q = .lst .new (D.mapFL fzF xs) := rfl
theorem q_dic {xs : List (Kd × D)} : (D.dic .own xs).q = .dic .new (D.mapFK fzF xs) := rfl
theorem q_dit {xs : List (Kd × D)} : (D.dit .own xs).q = .dit .new (D.mapFK fzF xs) := rfl
theorem q_obj {C : Addr} {xs : List (Kd × D)} : (D.obj .own C xs).q = .obj .new C (D.mapFK fzF xs) := rfl
end VL

/-! VMe: dicts that are walked: locked meanwhile. -/
namespace VL
open PySem PySem.Spec PyProof.Rows L2
variable [LamT]

open Classical in
/-- what stands at d is locked -/
noncomputable def lk (d : Addr) (od : Obj) (u : HO) (F : Hp) : Hp := fun a => if a = d ∧ F a = some u then some (.frz od u) else F a
open Classical in
noncomputable def unl (d : Addr) (od : Obj) (u : HO) (F : Hp) : Hp := fun a => if a = d ∧ F a = some (.frz od u) then some u else F a
section
variable {d : Addr} {od : Obj} {u : HO} {F G B H : Hp} {K : PySem.W.Frag}
theorem lk_ne {a : Addr} (h : a ≠ d) : lk d od u F a = F a := by unfold lk; rw [if_neg fun z => h z.1]
theorem lk_at (h : F d = some u) : lk d od u F d = some (.frz od u) := by unfold lk; rw [if_pos ⟨rfl, h⟩]
theorem unl_ne {a : Addr} (h : a ≠ d) : unl d od u F a = F a := by unfold unl; rw [if_neg fun z => h z.1]
theorem unl_at (h : F d = some (.frz od u)) : unl d od u F d = some u := by unfold unl; rw [if_pos ⟨rfl, h⟩]
theorem lk_none {a : Addr} : lk d od u F a = none ↔ F a = none := by
  unfold lk
  by_cases e : a = d ∧ F a = some u
  · rw [if_pos e, e.2]; simp
  · rw [if_neg e]
theorem unl_none {a : Addr} : unl d od u F a = none ↔ F a = none := by
  unfold unl
  by_cases e : a = d ∧ F a = some (.frz od u)
  · rw [if_pos e, e.2]; simp
  · rw [if_neg e]
theorem same_lk (s : Same F H) : Same (lk d od u F) (lk d od u H) := fun a o e => by
  by_cases h : a = d ∧ F a = some u
  · obtain ⟨rfl, h⟩ := h
    rw [lk_at h] at e
    rw [lk_at (s _ _ h)]
    exact e
  · unfold lk at e
    rw [if_neg h] at e
    have := s a o e
    unfold lk
    by_cases h2 : a = d ∧ H a = some u
    · exfalso
      refine h ⟨h2.1, ?_⟩
      rw [this] at h2
      rw [e]; exact h2.2
    · rw [if_neg h2]; exact this
theorem same_unl (s : Same F H) : Same (unl d od u F) (unl d od u H) := fun a o e => by
  by_cases h : a = d ∧ F a = some (.frz od u)
  · obtain ⟨rfl, h⟩ := h
    rw [unl_at h] at e
    rw [unl_at (s _ _ h)]
    exact e
  · unfold unl at e
    rw [if_neg h] at e
    have := s a o e
    unfold unl
    by_cases h2 : a = d ∧ H a = some (.frz od u)
    · exfalso
      refine h ⟨h2.1, ?_⟩
      rw [this] at h2
      rw [e]; exact h2.2
    · rw [if_neg h2]; exact this
/-- the dict that is locked -/
noncomputable def IsDk (u : HO) : Prop := (∃ vs, u = .dK vs) ∨ ∃ vs, u = .dT vs
theorem IsDk.p {u : HO} (h : IsDk u) : PlO u := by rcases h with ⟨_, rfl⟩ | ⟨_, rfl⟩ <;> trivial
theorem IsDk.nt {u : HO} (h : IsDk u) : NT u := h.p.nt
theorem smn_lk (s : SmN F H) (hu : IsDk u) : SmN (lk d od u F) (lk d od u H) := ⟨fun a o e n => by
  by_cases h : a = d ∧ F a = some u
  · obtain ⟨rfl, h⟩ := h
    rw [lk_at h] at e
    rw [lk_at (s _ _ h hu.nt)]
    exact e
  · unfold lk at e
    rw [if_neg h] at e
    have := s a o e n
    unfold lk
    by_cases h2 : a = d ∧ H a = some u
    · exfalso
      refine h ⟨h2.1, ?_⟩
      rw [this] at h2
      rw [e]; exact h2.2
    · rw [if_neg h2]; exact this, fun a ps e => by
  by_cases h : a = d ∧ F a = some u
  · obtain ⟨rfl, h⟩ := h
    rw [lk_at h] at e
    cases e
  · unfold lk at e
    rw [if_neg h] at e
    obtain ⟨qs, q⟩ := s.y a ps e
    unfold lk
    by_cases h2 : a = d ∧ H a = some u
    · rw [q] at h2
      exact absurd hu.nt (by rw [← Option.some.inj h2.2]; exact id)
    · rw [if_neg h2]; exact ⟨qs, q⟩⟩
theorem sub_lk (s : Sub G H) (hu : IsDk u) : Sub (lk d od u G) (lk d od u H) := ⟨smn_lk s.n hu, tabs_of s.t fun b o e n => by
  unfold lk
  by_cases h2 : b = d ∧ H b = some u
  · rw [e] at h2
    exact absurd hu.p (by rw [← Option.some.inj h2.2]; exact n)
  · rw [if_neg h2]; exact e⟩
theorem smn_unl (s : SmN F H) : SmN (unl d od u F) (unl d od u H) := ⟨fun a o e n => by
  by_cases h : a = d ∧ F a = some (.frz od u)
  · obtain ⟨rfl, h⟩ := h
    rw [unl_at h] at e
    rw [unl_at (s _ _ h trivial)]
    exact e
  · unfold unl at e
    rw [if_neg h] at e
    have := s a o e n
    unfold unl
    by_cases h2 : a = d ∧ H a = some (.frz od u)
    · exfalso
      refine h ⟨h2.1, ?_⟩
      rw [this] at h2
      rw [e]; exact h2.2
    · rw [if_neg h2]; exact this, fun a ps e => by
  by_cases h : a = d ∧ F a = some (.frz od u)
  · obtain ⟨rfl, h⟩ := h
    rw [unl_at h] at e
    rw [unl_at (s _ _ h trivial)]
    exact ⟨ps, e⟩
  · unfold unl at e
    rw [if_neg h] at e
    obtain ⟨qs, q⟩ := s.y a ps e
    unfold unl
    by_cases h2 : a = d ∧ H a = some (.frz od u)
    · rw [q] at h2
      cases h2.2
    · rw [if_neg h2]; exact ⟨qs, q⟩⟩
theorem sub_unl (s : Sub G H) : Sub (unl d od u G) (unl d od u H) := ⟨smn_unl s.n, tabs_of s.t fun b o e n => by
  unfold unl
  by_cases h2 : b = d ∧ H b = some (.frz od u)
  · rw [e] at h2
    exact absurd trivial (by rw [Option.some.inj h2.2] at n; exact n)
  · rw [if_neg h2]; exact e⟩
theorem nd_lk {f : Fl} {p : Addr} {o : HO} (hp : p ≠ d) (n : Nd G B H f p o) : Nd (lk d od u G) (lk d od u B) (lk d od u H) f p o := by
  cases f with
  | own => exact (lk_ne hp).trans n
  | new => exact (lk_ne hp).trans n
  | frz => exact (lk_ne hp).trans n
  | bor => exact n.imp (lk_ne hp).trans (lk_ne hp).trans
  | loc => exact n.elim
theorem nd_lkd {f : Fl} {o : HO} (gh : Sub G H) (bh : SmN B H) (h : H d = some u) (hu : IsDk u) (n : Nd G B H f d o) : o = u ∧ Nd (lk d od u G) (lk d od u B) (lk d od u H) f d (.frz od o) := by
  have e := n.eq gh.n bh h hu.nt
  subst e
  refine ⟨rfl, ?_⟩
  cases f with
  | own => exact lk_at n
  | new => exact lk_at n
  | frz => exact lk_at n
  | bor => exact n.imp lk_at lk_at
  | loc => exact n.elim
theorem nd_unl {f : Fl} {p : Addr} {o : HO} (hp : p ≠ d) (n : Nd G B H f p o) : Nd (unl d od u G) (unl d od u B) (unl d od u H) f p o := by
  cases f with
  | own => exact (unl_ne hp).trans n
  | new => exact (unl_ne hp).trans n
  | frz => exact (unl_ne hp).trans n
  | bor => exact n.imp (unl_ne hp).trans (unl_ne hp).trans
  | loc => exact n.elim
theorem rd_lk {p : Addr} {o : HO} (hp : p ≠ d) (h : Rd F p o) : Rd (lk d od u F) p o := h.imp (lk_ne hp).trans fun ⟨x, h⟩ => ⟨x, (lk_ne hp).trans h⟩
theorem rd_unl {p : Addr} {o : HO} (hp : p ≠ d) (h : Rd F p o) : Rd (unl d od u F) p o := h.imp (unl_ne hp).trans fun ⟨x, h⟩ => ⟨x, (unl_ne hp).trans h⟩
theorem ne_of_rd {p : Addr} {o : HO} (s : SmN F H) (h : H d = some u) (hu : IsDk u) (r : Rd F p o) (no : ¬ IsDk o) : p ≠ d := by
  rintro rfl
  rcases r with r | ⟨x, r⟩
  · have := s.b h hu.nt r
    subst this
    exact no hu
  · have := s _ _ r trivial
    rw [h] at this
    cases this
    rcases hu with ⟨_, z⟩ | ⟨_, z⟩ <;> cases z
theorem sqT_lk {p : Addr} {vs : List V} (s : SmN F H) (h : H d = some u) (hu : IsDk u) (q : SqT K F p vs) : SqT K (lk d od u F) p vs := by
  rcases q with q | q
  · exact .inl (rd_lk (ne_of_rd s h hu q (by rintro (⟨_, z⟩ | ⟨_, z⟩) <;> cases z)) q)
  · exact .inr q
theorem sqL_lk {p : Addr} {vs : List V} (s : SmN F H) (h : H d = some u) (hu : IsDk u) (q : SqL K F p vs) : SqL K (lk d od u F) p vs := by
  rcases q with q | q
  · exact .inl (rd_lk (ne_of_rd s h hu q (by rintro (⟨_, z⟩ | ⟨_, z⟩) <;> cases z)) q)
  · exact .inr q
theorem nd_ne {f : Fl} {p : Addr} {o : HO} (gh : Sub G H) (bh : SmN B H) (h : H d = some u) (hu : IsDk u) (n : Nd G B H f p o) (no : ¬ IsDk o) : p ≠ d := by
  rintro rfl
  have := n.eq gh.n bh h hu.nt
  subst this
  exact no hu
theorem ndR_lk {f : Fl} {p : Addr} {o : HO} (gh : Sub G H) (bh : SmN B H) (h : H d = some u) (hu : IsDk u) (hf : f ≠ .new) (n : NdR G B H f p o) : NdR (lk d od u G) (lk d od u B) (lk d od u H) f p o := by
  by_cases e : p = d
  · subst e
    rcases n with n | ⟨nn, ob, n⟩
    · obtain ⟨rfl, n2⟩ := nd_lkd (od := od) gh bh h hu n
      exact .inr ⟨hf, od, n2⟩
    · have := n.here gh bh
      rw [h] at this
      cases this
      rcases hu with ⟨_, z⟩ | ⟨_, z⟩ <;> cases z
  · rcases n with n | ⟨nn, ob, n⟩
    · exact .inl (nd_lk e n)
    · exact .inr ⟨nn, ob, nd_lk e n⟩
theorem notDk {o : HO} (h : ∀ vs, o ≠ .dK vs) (h2 : ∀ vs, o ≠ .dT vs) : ¬ IsDk o := by
  rintro (⟨_, z⟩ | ⟨_, z⟩)
  · exact h _ z
  · exact h2 _ z
theorem nk_lk (s : SmN F H) (h : H d = some u) (hu : IsDk u) {k : Nk} {b : Addr} (x : NkAt F k b) : NkAt (lk d od u F) k b := by
  obtain ⟨q, h1, h2⟩ := x
  exact ⟨q, (lk_ne (ne_of_rd s h hu (.inl h1) (notDk (fun _ z => by cases z) fun _ z => by cases z))).trans h1, (lk_ne (ne_of_rd s h hu (.inl h2) (notDk (fun _ z => by cases z) fun _ z => by cases z))).trans h2⟩
mutual
theorem Dat.lk (gh : Sub G H) (bh : SmN B H) (h : H d = some u) (hu : IsDk u) : ∀ {S : List Addr} {v : V} {x : D}, x.old → Dat K G B H S v x → Dat K (VL.lk d od u G) (VL.lk d od u B) (VL.lk d od u H) S v x
  | _, _, _, _, .non => .non
  | _, _, _, _, .bl b => .bl b
  | _, _, _, _, .int i => .int i
  | _, _, _, _, .str x => .str x
  | _, _, _, _, .ty n => .ty n
  | _, _, _, _, .ref a => .ref a
  | _, _, _, _, .xc hd hf => .xc ((lk_ne (fun z => by
      subst z
      rw [gh _ _ hd trivial] at h
      cases h
      exact notDk (fun _ z => by cases z) (fun _ z => by cases z) hu)).trans hd) hf
  | _, _, _, _, .tup ht hs => .tup (ht.imp (fun q => (lk_ne (ne_of_rd gh.n h hu (.inl q) (notDk (fun _ z => by cases z) fun _ z => by cases z))).trans q) fun ⟨e, q⟩ => ⟨e, sqT_lk gh.n h hu q⟩) (Dats.lk gh bh h hu hs)
  | _, _, _, _, .tuk ht hs => .tuk (sqT_lk gh.n h hu ht) (Dats.lk gh bh h hu hs)
  | _, _, _, _, .clo hs => .clo (Dats.lk gh bh h hu hs)
  | _, _, _, _, .lst n hs => .lst (nd_lk (nd_ne gh bh h hu n (notDk (fun _ z => by cases z) fun _ z => by cases z)) n) (Dats.lk gh bh h hu hs)
  | _, _, _, _, .lok q hs => .lok (q.imp (sqL_lk bh h hu) (sqL_lk gh.n h hu)) (Dats.lk gh bh h hu hs)
  | _, _, _, o, .dic n hs => .dic (ndR_lk gh bh h hu (fun z => o (by rw [z]; rfl)) n) (DatM.lk gh bh h hu hs)
  | _, _, _, o, .dit n hs => .dit (ndR_lk gh bh h hu (fun z => o (by rw [z]; rfl)) n) (DatM.lk gh bh h hu hs)
  | _, _, _, _, .din hw n hk eq => .din hw (nd_lk (nd_ne gh bh h hu n (notDk (fun _ z => by cases z) fun _ z => by cases z)) n) (fun x m => nk_lk gh.n h hu (hk x m)) eq
  | _, _, _, _, .obj (dx := dx) n hs => .obj (dx := dx) (nd_lk (nd_ne gh bh h hu n (notDk (fun _ z => by cases z) fun _ z => by cases z)) n) (DatM.lk gh bh h hu hs)
theorem Dats.lk (gh : Sub G H) (bh : SmN B H) (h : H d = some u) (hu : IsDk u) : ∀ {S : List Addr} {v : List V} {x : List D}, Dats K G B H S v x → Dats K (VL.lk d od u G) (VL.lk d od u B) (VL.lk d od u H) S v x
  | _, _, _, .nil => .nil
  | _, _, _, .cons n hd t => .cons n (Dat.lk gh bh h hu n hd) (Dats.lk gh bh h hu t)
theorem DatM.lk (gh : Sub G H) (bh : SmN B H) (h : H d = some u) (hu : IsDk u) : ∀ {S : List Addr} {v : List (Kd × V)} {x : List (Kd × D)}, DatM K G B H S v x → DatM K (VL.lk d od u G) (VL.lk d od u B) (VL.lk d od u H) S v x
  | _, _, _, .nil => .nil
  | _, _, _, .cons n hd t => .cons n (Dat.lk gh bh h hu n hd) (DatM.lk gh bh h hu t)
end
theorem SOk.lk {As : List V} {σ : L2.St} {ρ : Plc} (so : SOk K G B H As σ ρ) (h : H d = some u) (hu : IsDk u) : SOk K (VL.lk d od u G) (VL.lk d od u B) (VL.lk d od u H) As σ ρ :=
  ⟨sub_lk so.gh hu, smn_lk so.bh hu, so.len, fun i x e => let ⟨n, v, h1, S, h2⟩ := so.at' i x e; ⟨n, v, h1, S, h2.lk so.gh so.bh h hu n⟩, so.arg, fun j x e => let ⟨n, v, h1, S, h2⟩ := so.ar j x e; ⟨n, v, h1, S, h2.lk so.gh so.bh h hu n⟩⟩
end

section
variable {d : Addr} {od : Obj} {u : HO} {F G B H : Hp} {K : PySem.W.Frag}
theorem ne_frz {p : Addr} {o : HO} (s : SmN F H) (h : H d = some (.frz od u)) (hu : IsDk u) (r : Rd F p o) (no : ¬ IsDk o) (nf : ∀ x y, o ≠ .frz x y) : p ≠ d := by
  rintro rfl
  rcases r with r | ⟨x, r⟩
  · have := s.b h trivial r
    exact nf _ _ this
  · have := s _ _ r trivial
    rw [h] at this
    cases this
    exact no hu
theorem sqT_unl {p : Addr} {vs : List V} (s : SmN F H) (h : H d = some (.frz od u)) (hu : IsDk u) (q : SqT K F p vs) : SqT K (unl d od u F) p vs := by
  rcases q with q | q
  · exact .inl (rd_unl (ne_frz s h hu q (notDk (fun _ z => by cases z) fun _ z => by cases z) (fun _ _ z => by cases z)) q)
  · exact .inr q
theorem sqL_unl {p : Addr} {vs : List V} (s : SmN F H) (h : H d = some (.frz od u)) (hu : IsDk u) (q : SqL K F p vs) : SqL K (unl d od u F) p vs := by
  rcases q with q | q
  · exact .inl (rd_unl (ne_frz s h hu q (notDk (fun _ z => by cases z) fun _ z => by cases z) (fun _ _ z => by cases z)) q)
  · exact .inr q
theorem ndR_unl {f : Fl} {p : Addr} {o : HO} (gh : Sub G H) (bh : SmN B H) (h : H d = some (.frz od u)) (n : NdR G B H f p o) (nf : ∀ x y, o ≠ .frz x y) : NdR (unl d od u G) (unl d od u B) (unl d od u H) f p o := by
  by_cases e : p = d
  · subst e
    rcases n with n | ⟨nn, ob, n⟩
    · exact absurd (n.eq gh.n bh h trivial) (nf _ _)
    · have := n.here gh bh
      rw [h] at this
      cases this
      refine .inl ?_
      cases f with
      | own => exact unl_at n
      | new => exact absurd rfl nn
      | frz => exact unl_at n
      | bor => exact n.imp unl_at unl_at
      | loc => exact n.elim
  · rcases n with n | ⟨nn, ob, n⟩
    · exact .inl (nd_unl e n)
    · exact .inr ⟨nn, ob, nd_unl e n⟩
theorem nd_nef {f : Fl} {p : Addr} {o : HO} (gh : Sub G H) (bh : SmN B H) (h : H d = some (.frz od u)) (n : Nd G B H f p o) (nf : ∀ x y, o ≠ .frz x y) : p ≠ d := by
  rintro rfl
  exact nf _ _ (n.eq gh.n bh h trivial)
theorem nk_unl (s : SmN F H) (h : H d = some (.frz od u)) (hu : IsDk u) {k : Nk} {b : Addr} (x : NkAt F k b) : NkAt (unl d od u F) k b := by
  obtain ⟨q, h1, h2⟩ := x
  exact ⟨q, (unl_ne (ne_frz s h hu (.inl h1) (notDk (fun _ z => by cases z) fun _ z => by cases z) (fun _ _ z => by cases z))).trans h1, (unl_ne (ne_frz s h hu (.inl h2) (notDk (fun _ z => by cases z) fun _ z => by cases z) (fun _ _ z => by cases z))).trans h2⟩
mutual
theorem Dat.unl (gh : Sub G H) (bh : SmN B H) (h : H d = some (.frz od u)) (hu : IsDk u) : ∀ {S : List Addr} {v : V} {x : D}, Dat K G B H S v x → Dat K (VL.unl d od u G) (VL.unl d od u B) (VL.unl d od u H) S v x
  | _, _, _, .non => .non
  | _, _, _, .bl b => .bl b
  | _, _, _, .int i => .int i
  | _, _, _, .str x => .str x
  | _, _, _, .ty n => .ty n
  | _, _, _, .ref a => .ref a
  | _, _, _, .xc hd hf => .xc ((unl_ne (fun z => by
      subst z
      rw [gh _ _ hd trivial] at h
      cases h)).trans hd) hf
  | _, _, _, .tup ht hs => .tup (ht.imp (fun q => (unl_ne (ne_frz gh.n h hu (.inl q) (notDk (fun _ z => by cases z) fun _ z => by cases z) (fun _ _ z => by cases z))).trans q) fun ⟨e, q⟩ => ⟨e, sqT_unl gh.n h hu q⟩) (Dats.unl gh bh h hu hs)
  | _, _, _, .tuk ht hs => .tuk (sqT_unl gh.n h hu ht) (Dats.unl gh bh h hu hs)
  | _, _, _, .clo hs => .clo (Dats.unl gh bh h hu hs)
  | _, _, _, .lst n hs => .lst (nd_unl (nd_nef gh bh h n (fun _ _ z => by cases z)) n) (Dats.unl gh bh h hu hs)
  | _, _, _, .lok q hs => .lok (q.imp (sqL_unl bh h hu) (sqL_unl gh.n h hu)) (Dats.unl gh bh h hu hs)
  | _, _, _, .dic n hs => .dic (ndR_unl gh bh h n (fun _ _ z => by cases z)) (DatM.unl gh bh h hu hs)
  | _, _, _, .dit n hs => .dit (ndR_unl gh bh h n (fun _ _ z => by cases z)) (DatM.unl gh bh h hu hs)
  | _, _, _, .din hw n hk eq => .din hw (nd_unl (nd_nef gh bh h n (fun _ _ z => by cases z)) n) (fun x m => nk_unl gh.n h hu (hk x m)) eq
  | _, _, _, .obj (dx := dx) n hs => .obj (dx := dx) (nd_unl (nd_nef gh bh h n (fun _ _ z => by cases z)) n) (DatM.unl gh bh h hu hs)
theorem Dats.unl (gh : Sub G H) (bh : SmN B H) (h : H d = some (.frz od u)) (hu : IsDk u) : ∀ {S : List Addr} {v : List V} {x : List D}, Dats K G B H S v x → Dats K (VL.unl d od u G) (VL.unl d od u B) (VL.unl d od u H) S v x
  | _, _, _, .nil => .nil
  | _, _, _, .cons n hd t => .cons n (Dat.unl gh bh h hu hd) (Dats.unl gh bh h hu t)
theorem DatM.unl (gh : Sub G H) (bh : SmN B H) (h : H d = some (.frz od u)) (hu : IsDk u) : ∀ {S : List Addr} {v : List (Kd × V)} {x : List (Kd × D)}, DatM K G B H S v x → DatM K (VL.unl d od u G) (VL.unl d od u B) (VL.unl d od u H) S v x
  | _, _, _, .nil => .nil
  | _, _, _, .cons n hd t => .cons n (Dat.unl gh bh h hu hd) (DatM.unl gh bh h hu t)
end
theorem Ext.unl {G' H' : Hp} (gh : Sub G H) (h : H d = some u) (hu : IsDk u) (e : Ext (VL.lk d od u G) (VL.lk d od u H) G' H') : Ext G H (VL.unl d od u G') (VL.unl d od u H') := by
  have hd : H' d = some (.frz od u) := e.h d _ (lk_at h) trivial
  refine ⟨⟨fun a o q n => ?_, fun a ps q => ?_⟩, fun a o q => ?_, fun a o q => ?_, sub_unl e.gh⟩
  · by_cases x : a = d
    · subst x
      rw [h] at q
      cases q
      exact unl_at hd
    · rw [unl_ne x]
      exact e.h a o ((lk_ne x).trans q) n
  · by_cases x : a = d
    · subst x
      rw [h] at q
      cases q
      exact hu.nt.elim
    · rw [unl_ne x]
      exact e.h.y a ps ((lk_ne x).trans q)
  · by_cases x : a = d
    · subst x
      have := gh.n.b h hu.nt q
      subst this
      exact unl_at (e.g _ _ (lk_at q))
    · rw [unl_ne x]
      exact e.g a o ((lk_ne x).trans q)
  · by_cases x : a = d
    · subst x
      cases z : G' a with
      | none => rw [unl_none.mpr z] at q; cases q
      | some o2 =>
        rcases e.new a o2 z with w | w
        · cases g : G a with
          | none => rw [lk_none.mpr g] at w; cases w
          | some o3 =>
            have := gh.n.b h hu.nt g
            subst this
            rw [lk_at g] at w
            cases w
            rw [unl_at z] at q
            cases q
            exact .inl rfl
        · rw [lk_at h] at w; cases w
    · rw [unl_ne x] at q
      rcases e.new a o q with w | w
      · exact .inl ((lk_ne x).symm.trans w)
      · exact .inr (lk_none.mp w)
end
end VL

/-! VMf: comprehensions over a dict's keys. -/
namespace VL
open PySem PySem.Spec PyProof.Rows L2
variable [LamT]

/-- an expression that reads the same while a dict is locked: a name, a name's field -/
structure DPath (X : Cx) (e : Expr) (fq : FQ) : Prop where
  ex : ∃ te : TE, PE X e te ∧ ∀ (G B H : Hp) (As : List V) (σ : L2.St) (ρ : Plc) (x : D), SOk X.K G B H As σ ρ → fq ρ = .ok x → x.old ∧ ∃ v, Dt X.K G B H v x ∧ (∀ R : VK, R v H → te σ H R) ∧ ∀ d od u (R : VK), H d = some u → IsDk u → R v (lk d od u H) → te σ (lk d od u H) R
theorem pe_or {X : Cx} {e : Expr} {t t' : TE} (h : PE X e t) (h' : PE X e t') : PE X e fun σ H R => t σ H R ∨ t' σ H R := ⟨fun pins s σ H Q I q => q.elim (h.run pins s σ H Q I) (h'.run pins s σ H Q I)⟩
section
variable {X : Cx} {W : WX} {pos : Pos} {elt tg' iter : Expr} {ifs : List Expr} {scope : Scope} {own : List (Str × Nat)} {fq : FQ} {tg : Tg} {tt : FT} {te : FQ}
end
end VL

/-! VMg: sorted texts, and rows of texts. -/
namespace VL
open PySem PySem.Spec PyProof.Rows L2
variable [LamT]

noncomputable def leS (a b : Str) : Bool := leD (.str a) (.str b)
noncomputable def leT (a b : List Str) : Bool := leD (tupS a) (tupS b)
noncomputable def sortS (m : List Str) : List Str := m.mergeSort leS
noncomputable def sortT (m : List (List Str)) : List (List Str) := m.mergeSort leT
theorem sortS_map (m : List Str) : (m.map D.str).mergeSort leD = (sortS m).map D.str := (List.map_mergeSort (f := D.str) (r := leS) (s := leD) fun _ _ _ _ => rfl).symm
theorem sortT_map (m : List (List Str)) : (m.map tupS).mergeSort leD = (sortT m).map tupS := (List.map_mergeSort (f := tupS) (r := leT) (s := leD) fun _ _ _ _ => rfl).symm
theorem leS_eq (a b : Str) : leS a b = decide (a.cps.toList ≤ b.cps.toList) := by
  have := congrFun (congrFun (PySem.W.dataLe_str (fun s : Str => s)) a) b
  exact this
theorem str_ext {a b : Str} (h : a.cps.toList = b.cps.toList) : a = b := by
  obtain ⟨a⟩ := a
  obtain ⟨b⟩ := b
  congr 1
  exact Array.toList_inj.mp h
theorem leS_anti {a b : Str} (h : leS a b = true) (h2 : leS b a = true) : a = b := by
  rw [leS_eq, decide_eq_true_eq] at *
  exact str_ext (List.le_antisymm h h2)
theorem sortS_length {xs : List Str} : (sortS xs).length = xs.length := (List.mergeSort_perm xs leS).length_eq
theorem alike_strs (xs : List Str) : PySem.W.AllAlike ((xs.map D.str).map D.pd) := by
  intro a ha b hb
  simp only [List.map_map, List.mem_map] at ha hb
  obtain ⟨x, _, rfl⟩ := ha
  obtain ⟨y, _, rfl⟩ := hb
  simp [D.pd, PySem.W.alike]
theorem sortable_strs (xs : List Str) : PySem.W.Sortable ((xs.map D.str).map D.pd) := .inr fun a ha => by
  simp only [List.map_map, List.mem_map] at ha
  obtain ⟨x, _, rfl⟩ := ha
  exact ⟨by simp [D.pd], fun xs => by simp [D.pd]⟩
theorem okL_mapV {α : Type} {n : Nat} {f : α → D} : ∀ xs : List α, (∀ x ∈ xs, D.ok n (f x) = true) → D.okL n (xs.map f) = true
  | [], _ => rfl
  | x :: xs, h => by
    rw [List.map_cons, D.okL, h x (by simp), okL_mapV xs fun y m => h y (by simp [m])]
    rfl
theorem okL_strs {n : Nat} {xs : List Str} (h : ∀ x ∈ xs, PyData.strOk x = true) : D.okL n (xs.map D.str) = true := okL_mapV _ fun x hx => by
  simp only [D.ok]
  exact h x hx
theorem alike_all : ∀ xs ys : List Str, PySem.W.alikeAll (D.pdL (xs.map D.str)) (D.pdL (ys.map D.str)) = true
  | [], _ => by simp [D.pdL, PySem.W.alikeAll]
  | x :: xs, [] => by simp [D.pdL, PySem.W.alikeAll]
  | x :: xs, y :: ys => by
    rw [List.map_cons, List.map_cons, D.pdL, D.pdL, PySem.W.alikeAll, alike_all xs ys]
    simp [D.pd, PySem.W.alike]
theorem alike_tups (ms : List (List Str)) : PySem.W.AllAlike ((ms.map tupS).map D.pd) := by
  intro a ha b hb
  simp only [List.map_map, List.mem_map] at ha hb
  obtain ⟨x, _, rfl⟩ := ha
  obtain ⟨y, _, rfl⟩ := hb
  show PySem.W.alike (D.pd (tupS x)) (D.pd (tupS y)) = true
  unfold tupS
  rw [D.pd, D.pd, PySem.W.alike]
  exact alike_all x y
theorem sortable_tups {ms : List (List Str)} (h : ∀ m ∈ ms, m ≠ []) : PySem.W.Sortable ((ms.map tupS).map D.pd) := .inl fun a ha => by
  simp only [List.map_map, List.mem_map] at ha
  obtain ⟨x, hx, rfl⟩ := ha
  cases x with
  | nil => exact absurd rfl (h _ hx)
  | cons y r => exact ⟨D.pd (.str y), D.pdL (r.map .str), by simp [tupS, D.pd, D.pdL]⟩
theorem okL_tups {n : Nat} {ms : List (List Str)} (h : ∀ m ∈ ms, ∀ w ∈ m, PyData.strOk w = true) : D.okL (n + 1) (ms.map tupS) = true := okL_mapV _ fun m hm => by
  show D.okL n _ = true
  exact okL_strs (h m hm)
theorem sortV_strs {f : Fl} {xs : List Str} (h : ∀ x ∈ xs, PyData.strOk x = true) : sortV [.lst f (xs.map D.str)] = .ok (.lst .new ((sortS xs).map D.str)) := by
  unfold sortV
  simp only
  rw [if_pos ⟨okL_strs h, alike_strs xs, sortable_strs xs⟩, sortS_map]
theorem sortV_tups {f : Fl} {ms : List (List Str)} (h : ∀ m ∈ ms, ∀ w ∈ m, PyData.strOk w = true) (h2 : ∀ m ∈ ms, m ≠ []) : sortV [.lst f (ms.map tupS)] = .ok (.lst .new ((sortT ms).map tupS)) := by
  unfold sortV
  simp only
  rw [if_pos ⟨okL_tups h, alike_tups ms, sortable_tups h2⟩, sortT_map]
theorem sortT_mem {ms : List (List Str)} {m : List Str} : m ∈ sortT ms ↔ m ∈ ms := (List.mergeSort_perm ms leT).mem_iff
theorem sortT_length {ms : List (List Str)} : (sortT ms).length = ms.length := (List.mergeSort_perm ms leT).length_eq
theorem sortT_pm {ms : List (List Str)} : (sortT ms).Perm ms := List.mergeSort_perm ms leT
end VL

/-! VMh: == on trees. -/
namespace VL
open PySem PySem.Spec PyProof.Rows L2
variable [LamT]

@[simp] theorem deq_int {i j : Int} : deq (.int i) (.int j) = decide (i = j) := by simp [deq, D.pd, PyData.eqv]; rfl
@[simp] theorem deq_bl {i j : Bool} : deq (.bl i) (.bl j) = decide (i = j) := by cases i <;> cases j <;> simp [deq, D.pd, PyData.eqv]
@[simp] theorem deq_str {i j : Str} : deq (.str i) (.str j) = decide (i = j) := by
  show (i == j) = _
  rw [Bool.eq_iff_iff]; simp
theorem deq_lst {f g : Fl} {xs ys : List D} : deq (.lst f xs) (.lst g ys) = deqL xs ys := by simp [deq, deqL, D.pd, PyData.eqv]
theorem deq_tup {xs ys : List D} : deq (.tup xs) (.tup ys) = deqL xs ys := by simp [deq, deqL, D.pd, PyData.eqv]
@[simp] theorem deqL_nil : deqL [] [] = true := by simp [deqL, D.pdL, PyData.eqvAll]
@[simp] theorem deqL_cons {x y : D} {xs ys : List D} : deqL (x :: xs) (y :: ys) = (deq x y && deqL xs ys) := by simp [deqL, deq, D.pdL, PyData.eqvAll]
@[simp] theorem deqL_nc {y : D} {ys : List D} : deqL [] (y :: ys) = false := by simp [deqL, D.pdL, PyData.eqvAll]
@[simp] theorem deqL_cn {y : D} {ys : List D} : deqL (y :: ys) [] = false := by simp [deqL, D.pdL, PyData.eqvAll]
theorem deqL_map {α : Type} [DecidableEq α] {f : α → D} (h : ∀ a b, deq (f a) (f b) = decide (a = b)) : ∀ xs ys : List α, deqL (xs.map f) (ys.map f) = decide (xs = ys)
  | [], [] => by simp
  | [], y :: ys => by simp
  | x :: xs, [] => by simp
  | x :: xs, y :: ys => by
    simp only [List.map_cons, deqL_cons, h, deqL_map h xs ys]
    rw [Bool.eq_iff_iff]; simp
theorem deq_tupS (a b : List Str) : deq (tupS a) (tupS b) = decide (a = b) := by
  unfold tupS
  rw [deq_tup, deqL_map (fun _ _ => deq_str)]
end VL

/-! VMi: more of the reckoning: == on lists, rounds of loops, places by path, lists taken apart. -/
namespace VL
open PySem PySem.Spec PyProof.Rows L2
variable [LamT]

/-! ### == -/
theorem eqB_l {f g : Fl} {xs ys : List D} (h : D.okL 63 xs = true) (h1 : D.okL 63 ys = true) : eqB (.lst f xs) (.lst g ys) = some (deqL xs ys) := by
  show (if D.okL 63 xs = true ∧ D.okL 63 ys = true then some (deq (.lst f xs) (.lst g ys)) else none) = _
  rw [if_pos ⟨h, h1⟩, deq_lst]
theorem neV_l {f g : Fl} {xs ys : List D} (h : D.okL 63 xs = true) (h1 : D.okL 63 ys = true) : neV (.lst f xs) (.lst g ys) = .ok (.bl (!deqL xs ys)) := by
  unfold neV
  rw [eqB_l h h1]; rfl
theorem deqL_strs {xs : List Str} : deqL (xs.map D.str) (xs.map D.str) = true := by
  rw [deqL_map (fun _ _ => deq_str)]; simp
theorem neV_strs {f g : Fl} {xs : List Str} (h : ∀ x ∈ xs, PyData.strOk x = true) : neV (.lst f (xs.map D.str)) (.lst g (xs.map D.str)) = .ok (.bl false) := by
  rw [neV_l (okL_strs h) (okL_strs h), deqL_strs]; rfl
/-! ### lists -/
theorem listV_t {ds : List D} : listV [.tup ds] = .ok (.lst .new ds) := rfl
theorem listV_l {f : Fl} {ds : List D} : listV [.lst f ds] = .ok (.lst .new ds) := rfl
theorem listV_d {f : Fl} {kvs : List (Kd × D)} : listV [.dic f kvs] = .ok (.lst .new (kvs.map fun e => kdD e.1)) := rfl
theorem tupleV_l {f : Fl} {ds : List D} : tupleV [.lst f ds] = .ok (.tup ds) := rfl
theorem lenN_d {f : Fl} {kvs : List (Kd × D)} : lenN (.dic f kvs) = some kvs.length := rfl
theorem ixV_d {f : Fl} {kvs : List (Kd × D)} {z : Str} : ixV (.dic f kvs) (.str z) = ofO ((some (getK kvs (kS z))).bind id) := rfl
theorem slV_l {f : Fl} {ds : List D} {lo hi : Option Int} : slV (.lst f ds) lo hi = .ok (.lst .new (cutG ds lo hi)) := rfl
theorem cut_to {α : Type} {xs : List α} {k : Nat} : cutG xs none (some (k : Int)) = xs.take k := by
  unfold cutG
  rw [HT.sIx_nat, HT.sIx_none, List.drop_zero, Nat.sub_zero, ← List.take_eq_take_min]
theorem all_true {α : Type} (xs : List α) : (xs.map fun _ => true).all id = true := by rw [List.all_eq_true]; intro b m; obtain ⟨_, _, rfl⟩ := List.mem_map.mp m; rfl
theorem ints_mp {g : Fl → Fl} {st : List Int} : D.mapFL g (st.map D.int) = st.map D.int := mapFL_plain (ints_all st)
theorem strs_mp {g : Fl → Fl} {ns : List Str} : D.mapFL g (ns.map D.str) = ns.map D.str := mapFL_plain (strs_all ns)
/-! ### fields -/
theorem sFldF_ap {C : Addr} {x : Str} {fp : FP} {ga : FG} {ρ : Plc} : sFldF C x fp ga ρ = seqE (ga ρ) fun d ρ1 => match fp ρ1 with
  | .ok ⟨l, .obj .own C' fs, put⟩ => if C' = C ∧ fs.length < 1000 then .nx (ρ1.put l (put (.obj .own C (putFd fs (kS x) d)))) else .no
  | .ex x => .ex x ρ1
  | _ => .no := rfl
theorem fldD_ap {C C' : Addr} {x : Str} {fl : Fl} {fs : List (Kd × D)} : fldD C x (.obj fl C' fs) = if C' = C then (match getK fs (kS x) with | some d => .ok d | none => .no) else .no := rfl
/-! ### rounds of a loop -/
noncomputable def rndK (tg : Tg) (b : FS) (ds : List D) : OS → OS
  | .nx ρ => forV tg b ds ρ
  | .ct ρ => forV tg b ds ρ
  | .bk ρ => .nx ρ
  | .rt e ρ => .rt e ρ
  | .ex x ρ => .ex x ρ
  | .no => .no
theorem rndK_nx {tg : Tg} {b : FS} {ds : List D} {ρ : Plc} : rndK tg b ds (.nx ρ) = forV tg b ds ρ := rfl
theorem rndK_ct {tg : Tg} {b : FS} {ds : List D} {ρ : Plc} : rndK tg b ds (.ct ρ) = forV tg b ds ρ := rfl
theorem rndK_bk {tg : Tg} {b : FS} {ds : List D} {ρ : Plc} : rndK tg b ds (.bk ρ) = .nx ρ := rfl
theorem rndK_rt {tg : Tg} {b : FS} {ds : List D} {ρ : Plc} {e : D} : rndK tg b ds (.rt e ρ) = .rt e ρ := rfl
theorem rndK_ex {tg : Tg} {b : FS} {ds : List D} {ρ : Plc} {e : Exn} : rndK tg b ds (.ex e ρ) = .ex e ρ := rfl
theorem forV_cons {i : Nat} {b : FS} {d : D} {ds : List D} {ρ : Plc} : forV (.nm i) b (d :: ds) ρ = rndK (.nm i) b ds (b (ρ.setS i (.val d))) := by
  simp only [forV, put_nm]
  cases b (ρ.setS i (.val d)) <;> rfl
/-! ### places by path -/
noncomputable def pIxK (x : Pt) (k : D) : Out Exn Pt := pIx (fun _ => .ok x) (fun _ => .ok k) ⟨[], []⟩
theorem pIx_ap {fp : FP} {fq : FQ} {ρ : Plc} : pIx fp fq ρ = (fp ρ).bind fun x => (fq ρ).bind (pIxK x) := rfl
theorem pIxK_l {l : Lc} {fl : Fl} {ds : List D} {put : D → D} {i : Int} : pIxK ⟨l, .lst fl ds, put⟩ (.int i) = if fl = .loc then .no else (match ixN ds.length i with
    | some j => match ds[j]? with
      | some d => .ok ⟨l, d, put ∘ fun d' => .lst fl (ds.set j d')⟩
      | none => .no
    | none => .no) := rfl
theorem pIxK_t {l : Lc} {ds : List D} {put : D → D} {i : Int} : pIxK ⟨l, .tup ds, put⟩ (.int i) = (match ixN ds.length i with
    | some j => match ds[j]? with
      | some d => .ok ⟨l, d, put ∘ fun d' => .tup (ds.set j d')⟩
      | none => .no
    | none => .no) := rfl
theorem pIxK_d {l : Lc} {fl : Fl} {kvs : List (Kd × D)} {put : D → D} {z : Str} : pIxK ⟨l, .dic fl kvs, put⟩ (.str z) = (match getK kvs (kS z) with
      | some d => .ok ⟨l, d, put ∘ fun d' => .dic fl (setK kvs (kS z) d')⟩
      | none => .no) := rfl
noncomputable def gLmPK (f : List D → List D → Option (List D × D)) (m : FMq) (ρ : Plc) : Out Exn Pt → Out (Exn × Plc) (D × Plc)
  | .ok ⟨l, .lst .own ds, put⟩ => (match m ρ with
    | .ok es => (match f ds es with
      | some (ds', d) => .ok (d, ρ.put l (put (.lst .own ds')))
      | none => .no)
    | .ex x => .ex (x, ρ)
    | .no => .no)
  | .ex x => .ex (x, ρ)
  | _ => .no
theorem gLmP_ap {f : List D → List D → Option (List D × D)} {fp : FP} {m : FMq} {ρ : Plc} : gLmP f fp m ρ = gLmPK f m ρ (fp ρ) := rfl
theorem gLmPK_ok {f : List D → List D → Option (List D × D)} {m : FMq} {ρ : Plc} {l : Lc} {ds : List D} {put : D → D} : gLmPK f m ρ (.ok ⟨l, .lst .own ds, put⟩) = (match m ρ with
    | .ok es => (match f ds es with
      | some (ds', d) => .ok (d, ρ.put l (put (.lst .own ds')))
      | none => .no)
    | .ex x => .ex (x, ρ)
    | .no => .no) := rfl
theorem gLmPK_ex {f : List D → List D → Option (List D × D)} {m : FMq} {ρ : Plc} {x : Exn} : gLmPK f m ρ (.ex x) = .ex (x, ρ) := rfl
theorem mqNil_ap {ρ : Plc} : mqNil ρ = .ok [] := rfl
theorem mqCons_ap {f : FQ} {m : FMq} {ρ : Plc} : mqCons f m ρ = (f ρ).bind fun d => if d.free = true then (m ρ).bind fun ds => .ok (d.up :: ds) else .no := rfl
end VL

/-! VMj: a comprehension whose rounds change places. -/
namespace VL
open PySem PySem.Spec PyProof.Rows L2
variable [LamT]

mutual
theorem Tg.okW {K : PySem.W.Frag} {G B Φ H : Hp} {As : List V} {ws : List Nat} : ∀ (tg : Tg) {S : Pi → List Addr} {σ : L2.St} {ρ ρ' : Plc} {v : V} {d : D} {T U : List Addr} {R : L2.St → Hp → Prop}, (∀ i ∈ tg.vars, i ∈ ws) → VRep K G B Φ H As S σ ρ → Dat K G B H T v d → d.old → TOk (T ++ U) S G Φ H → Tg.put tg d ρ = some ρ' →
    (∀ S' σ', VRep K G B Φ H As S' σ' ρ' → TOk U S' G Φ H → wipe σ' ws = wipe σ ws → R σ' H) → Tg.rd K tg v σ H R
  | .nm i, S, σ, ρ, ρ', v, d, T, U, R, sub, r, hd, n, t, e, k => by
    simp only [Tg.put, Option.some.injEq] at e
    subst e
    refine k _ _ (r.set hd n t.left) ⟨t.right.1, fun a m => ⟨fun j q => ?_, (t.right.2 a m).2⟩⟩ (wipe_set (sub i (by simp [Tg.vars])))
    by_cases hj : j = .inl i
    · subst hj
      rw [setS_same] at q
      exact (List.nodup_append.mp t.1).2.2 a q a m rfl
    · rw [setS_ne hj] at q
      exact (t.right.2 a m).1 j q
  | .tp ts, S, σ, ρ, ρ', v, d, T, U, R, sub, r, hd, n, t, e, k => by
    cases d with
    | tup ds =>
      cases hd with
      | tup h hs =>
        simp only [Tg.put] at e
        have hl : ds.length = ts.length := Tg.puts_len ts ds e
        exact .inl ⟨_, _, rfl, r.gh.n.sqT h.sq, hs.length.trans hl, Tg.oksW ts (by simpa [Tg.vars] using sub) r hs t e k⟩
    | lst f ds =>
      cases f with
      | frz =>
        cases hd with
        | lst nd hs =>
          simp only [Tg.put] at e
          exact .inr ⟨_, _, rfl, SqL.of (Nd.here r.gh (bh_of r) nd), hs.length.trans (Tg.puts_len ts ds e), Tg.oksW ts (by simpa [Tg.vars] using sub) r hs t e k⟩
      | bor =>
        cases hd with
        | lst nd hs =>
          simp only [Tg.put] at e
          exact .inr ⟨_, _, rfl, SqL.of (Nd.here r.gh (bh_of r) nd), hs.length.trans (Tg.puts_len ts ds e), Tg.oksW ts (by simpa [Tg.vars] using sub) r hs t e k⟩
      | _ => simp [Tg.put] at e
    | _ => simp [Tg.put] at e
theorem Tg.oksW {K : PySem.W.Frag} {G B Φ H : Hp} {As : List V} {ws : List Nat} : ∀ (ts : List Tg) {S : Pi → List Addr} {σ : L2.St} {ρ ρ' : Plc} {vs : List V} {ds : List D} {T U : List Addr} {R : L2.St → Hp → Prop}, (∀ i ∈ Tg.varsL ts, i ∈ ws) → VRep K G B Φ H As S σ ρ → Dats K G B H T vs ds → TOk (T ++ U) S G Φ H → Tg.puts ts ds ρ = some ρ' →
    (∀ S' σ', VRep K G B Φ H As S' σ' ρ' → TOk U S' G Φ H → wipe σ' ws = wipe σ ws → R σ' H) → Tg.rds K ts vs σ H R
  | [], S, σ, ρ, ρ', vs, ds, T, U, R, sub, r, hs, t, e, k => by
    cases hs with
    | nil => simp only [Tg.puts, Option.some.injEq] at e; subst e; exact ⟨rfl, k _ _ r t rfl⟩
    | cons _ _ _ => simp [Tg.puts] at e
  | tg :: ts, S, σ, ρ, ρ', vs, ds, T, U, R, sub, r, hs, t, e, k => by
    cases hs with
    | nil => simp [Tg.puts] at e
    | cons n h hs =>
      simp only [Tg.puts] at e
      cases e1 : Tg.put tg _ ρ with
      | none => rw [e1] at e; cases e
      | some ρ1 =>
        rw [e1] at e
        refine ⟨_, _, rfl, Tg.okW tg (fun i m => sub i (by simp [Tg.varsL, m])) r h n (by rw [List.append_assoc] at t; exact t) e1 fun S' σ' r' t' w' => Tg.oksW ts (fun i m => sub i (by simp [Tg.varsL, m])) r' hs t' e fun S2 σ2 r2 t2 w2 => k S2 σ2 r2 t2 (w2.trans w')⟩
end
section
variable {K : PySem.W.Frag} {G B Φ H G' H' : Hp} {As : List V} {S : Pi → List Addr} {σ : L2.St} {ρ : Plc}
theorem VRep.wipe (r : VRep K G B Φ H As S σ ρ) : ∀ vs : List Nat, ∃ S', (∀ i a, a ∈ S' i → a ∈ S i) ∧ VRep K G B Φ H As S' (L2.wipe σ vs) (ρ.wipe vs)
  | [] => ⟨S, fun _ _ m => m, r⟩
  | v :: vs => by
    obtain ⟨S1, h1, r1⟩ := VRep.wipe r vs
    refine ⟨_, fun i a m => ?_, r1.drop (i := v) (x := none)⟩
    by_cases hj : i = .inl v
    · subst hj; rw [setS_same] at m; cases m
    · rw [setS_ne hj] at m; exact h1 i a m
end
section
variable {X : Cx} {W : WX} {pos : Pos} {elt tg' iter : Expr} {ifs : List Expr} {scope : Scope} {own : List (Str × Nat)} {fi : FGI} {tg : Tg} {tt : FGT} {te : FG}
end
end VL

/-! VMk: a call whose first argument, that the call changes, is no name: it is made for the call. -/
namespace VL
open PySem PySem.Spec PyProof.Rows L2
variable [LamT]

section
variable {X : Cx} {W : WX} {e : Expr} {es : List Expr} {as : List Ag} {ga : FG}
end
end VL

/-! VMl: dicts walked by keys, values, pairs: in comprehensions and in loops. -/
namespace VL
open PySem PySem.Spec PyProof.Rows L2
variable [LamT]

inductive Wd where
  | keys | vals | items
noncomputable def Wd.of : Wd → List (Kd × D) → List D
  | .keys, kvs => kvs.map fun e => kdD e.1
  | .vals, kvs => kvs.map fun e => e.2
  | .items, kvs => kvs.map fun e => .tup [kdD e.1, e.2]
noncomputable def Wd.it : Wd → Addr → Obj → List (Key × V) → It
  | .keys => Itk
  | .vals => Itd
  | .items => Iti
theorem Dtm.get {K : PySem.W.Frag} {G B H : Hp} : ∀ {vs : List (Key × V)} {kvs : List (Kd × D)} {i : Nat} {e : Kd × D}, Dtm K G B H (vs.map kK) kvs → kvs[i]? = some e → ∃ k v, vs[i]? = some (k, v) ∧ e.1 = .k k ∧ e.2.old ∧ Dt K G B H v e.2
  | [], [], _, _, _, h => by simp at h
  | [], _ :: _, _, _, h, _ => by have := h.length; simp at this
  | _ :: _, [], _, _, _, h => by simp at h
  | (k, v) :: vs, (k', d) :: ds, i, e, h, q => by
    obtain ⟨h1, h2, h3, h4⟩ := Dtm.uncons (k := .k k) (v := v) (vs := vs.map kK) h
    cases i with
    | zero =>
      simp at q
      subst q
      exact ⟨k, v, rfl, h1.symm, h2, h3⟩
    | succ i =>
      obtain ⟨k2, v2, q1, q2⟩ := Dtm.get (i := i) (e := e) h4 (by simpa using q)
      exact ⟨k2, v2, by simpa using q1, q2⟩
noncomputable def Wd.rd : Wd → V → Hp → (It → Hp → Prop) → Prop
  | .keys, x, H1, R => ∃ d o, x = .ref d ∧ ((∃ kvs, H1 d = some (.frz o (.dK kvs)) ∧ R (Itk d o kvs) H1) ∨ ∃ kvs, H1 d = some (.frz o (.dT kvs)) ∧ R (Itkt d o kvs) H1)
  | .vals, x, H1, R => ∃ d o kvs, x = .ref d ∧ H1 d = some (.frz o (.dK kvs)) ∧ R (Itd d o kvs) H1
  | .items, x, H1, R => ∃ d o kvs, x = .ref d ∧ H1 d = some (.frz o (.dK kvs)) ∧ R (Iti d o kvs) H1
/-- what a loop's or comprehension's head walks -/
structure DIt (X : Cx) (tgx iter e : Expr) (w : Wd) : Prop where
  pi : ∀ te : TE, PE X e te → PI X tgx iter (fun σ H R => te σ H fun x H1 => w.rd x H1 R)
section
variable {X : Cx} {W : WX} {pos spos : Pos} {elt tg' iter e : Expr} {ifs : List Expr} {scope : Scope} {own : List (Str × Nat)} {fq : FQ} {tg : Tg} {tt : FT} {te : FQ} {w : Wd}
end
/-! ### for over a dict that stays as it is -/
section
variable {K : PySem.W.Frag} {W : WX} {G B Φ H : Hp} {As : List V} {S : Pi → List Addr} {σ : L2.St} {ρ : Plc} {d : Addr} {od : Obj} {u : HO}
/-- it stands in what is settled or lent -/
noncomputable def Std (G B : Hp) (d : Addr) (o : HO) : Prop := G d = some o ∨ B d = some o
theorem VRep.lk (r : VRep K G B Φ H As S σ ρ) (h : Std G B d u) (hu : IsDk u) : VRep K (VL.lk d od u G) (VL.lk d od u B) (VL.lk d od u Φ) (VL.lk d od u H) As S σ ρ := by
  have hH : H d = some u := h.elim (fun z => r.gh _ _ z hu.nt) fun z => bh_of r _ _ z hu.nt
  have nS : ∀ i a, a ∈ S i → a ≠ d := fun i a m e => by
    subst e
    obtain ⟨q1, q2, _⟩ := r.fr i a m
    rcases h with h | h
    · rw [q1] at h; cases h
    · rw [r.bp _ _ h] at q2; cases q2
  refine ⟨sub_lk r.gh hu, same_lk r.bp, smn_lk r.ph hu, fun a o e => ?_, r.len, r.alen, fun i x e => let ⟨n, v, h1, h2⟩ := r.slot i x e; ⟨n, v, h1, h2.lk r.gh (bh_of r) hH hu n⟩, r.arg, fun i x e => let ⟨n, v, h1, h2⟩ := r.ar i x e; ⟨n, v, h1, h2.lk r.gh (bh_of r) hH hu n⟩, r.nd, r.dj, fun i a m => ?_⟩
  · cases z : Φ a with
    | none => rw [lk_none.mpr z] at e; cases e
    | some o' => exact lk_none.mpr (r.dis a o' z)
  · obtain ⟨q1, q2, o, q3, q4⟩ := r.fr i a m
    exact ⟨lk_none.mpr q1, lk_none.mpr q2, o, (lk_ne (nS i a m)).trans q3, q4⟩
theorem VRep.unl (r : VRep K G B Φ H As S σ ρ) (h : Std G B d (.frz od u)) (hu : IsDk u) : VRep K (VL.unl d od u G) (VL.unl d od u B) (VL.unl d od u Φ) (VL.unl d od u H) As S σ ρ := by
  have hH : H d = some (.frz od u) := h.elim (fun z => r.gh _ _ z trivial) fun z => bh_of r _ _ z trivial
  have nS : ∀ i a, a ∈ S i → a ≠ d := fun i a m e => by
    subst e
    obtain ⟨q1, q2, _⟩ := r.fr i a m
    rcases h with h | h
    · rw [q1] at h; cases h
    · rw [r.bp _ _ h] at q2; cases q2
  refine ⟨sub_unl r.gh, same_unl r.bp, smn_unl r.ph, fun a o e => ?_, r.len, r.alen, fun i x e => let ⟨n, v, h1, h2⟩ := r.slot i x e; ⟨n, v, h1, h2.unl r.gh (bh_of r) hH hu⟩, r.arg, fun i x e => let ⟨n, v, h1, h2⟩ := r.ar i x e; ⟨n, v, h1, h2.unl r.gh (bh_of r) hH hu⟩, r.nd, r.dj, fun i a m => ?_⟩
  · cases z : Φ a with
    | none => rw [unl_none.mpr z] at e; cases e
    | some o' => exact unl_none.mpr (r.dis a o' z)
  · obtain ⟨q1, q2, o, q3, q4⟩ := r.fr i a m
    exact ⟨unl_none.mpr q1, unl_none.mpr q2, o, (unl_ne (nS i a m)).trans q3, q4⟩
end
end VL

/-! VMm: tuples and lists turned round. -/
namespace VL
open PySem PySem.Spec PyProof.Rows L2
variable [LamT]

section
variable {prog : Program} {w : World} {A : Around} {E : Value → Shared → Prop} {s : Shared}
end
section
variable {X : Cx}
end
end VL

/-! VMn: a name's value is settled ahead of a statement. More of the reckoning. -/
namespace VL
open PySem PySem.Spec PyProof.Rows L2
variable [LamT]

/-! ### a, b = x, y of plain names -/
/-! ### reckoning -/
theorem wd_keys {kvs : List (Kd × D)} : Wd.keys.of kvs = kvs.map fun e => kdD e.1 := rfl
theorem wd_vals {kvs : List (Kd × D)} : Wd.vals.of kvs = kvs.map fun e => e.2 := rfl
theorem wd_items {kvs : List (Kd × D)} : Wd.items.of kvs = kvs.map fun e => .tup [kdD e.1, e.2] := rfl
/-! ### arguments that change things -/
/-! ### numbers, slices -/
/-! ### dicts written -/
theorem allFK_nil {p : Fl → Bool} : D.allFK p [] = true := rfl
theorem mapFK_nil {g : Fl → Fl} : D.mapFK g [] = [] := rfl
end VL

/-! VMo: list(d.values()), list(d.items()). -/
namespace VL
open PySem PySem.Spec PyProof.Rows L2
variable [LamT]
section
variable {X : Cx} {e : Expr} {te : TE} {p apos cpos pos : Pos}
end
/-! ### as functions on trees -/
/-- what is laid at new addresses is settled -/
noncomputable def layG (G : Hp) : Hp → List Addr → Hp := fun H' ts a => if a ∈ ts then H' a else G a
section
variable {X : Cx} {W : WX} {e : Expr} {fe : FQ} {p apos cpos pos : Pos}
end
/-! ### reckoning -/
end VL

/-! VMp: methods of things made on the spot; targets reckoned. -/
namespace VL
open PySem PySem.Spec PyProof.Rows L2
variable [LamT]

theorem put_tp {ts : List Tg} {ds : List D} {ρ : Plc} : Tg.put (.tp ts) (.tup ds) ρ = Tg.puts ts ds ρ := by simp only [Tg.put]
noncomputable def putK (ts : List Tg) (ds : List D) : Option Plc → Option Plc
  | some ρ => Tg.puts ts ds ρ
  | none => none
theorem puts_nil {ρ : Plc} : Tg.puts [] [] ρ = some ρ := by simp only [Tg.puts]
theorem puts_cons {t : Tg} {ts : List Tg} {d : D} {ds : List D} {ρ : Plc} : Tg.puts (t :: ts) (d :: ds) ρ = putK ts ds (Tg.put t d ρ) := by
  simp only [Tg.puts]
  cases Tg.put t d ρ <;> rfl
theorem putK_some {ts : List Tg} {ds : List D} {ρ : Plc} : putK ts ds (some ρ) = Tg.puts ts ds ρ := rfl

section
variable {X : Cx} {W : WX} {o e : Expr} {es : List Expr} {ga : FG} {m : FMq} {f : List D → List D → Option (List D × D)} {name : Str} {id : String} {apos cpos : Pos} {r : V → List V → Hp → VK → Prop}
end
end VL

/-! VMq: == and != of tuples and lists that hold dicts; what never runs. -/
namespace VL
open PySem PySem.Spec PyProof.Rows L2
variable [LamT]
open PySem.SeqAt (EqIn EqAt rcIn_lists rcIn_tuples)

/-! ### what never runs -/
/-! ### nested == -/
noncomputable def leafT (x y : D) : Option Bool := if D.ok 58 x = true ∧ D.ok 58 y = true then some (deq x y) else none
noncomputable def allT (q : D → D → Option Bool) : List D → List D → Option Bool
  | x :: xs, y :: ys => match q x y, allT q xs ys with
    | some a, some b => some (a && b)
    | _, _ => none
  | _, _ => some true
noncomputable def tupT (q : D → D → Option Bool) (xs ys : List D) : Option Bool := (allT q xs ys).map fun b => b && xs.length == ys.length
noncomputable def lstT (q : D → D → Option Bool) (xs ys : List D) : Option Bool := if xs.length = ys.length then allT q xs ys else some false
noncomputable def dicT (ks ls : List (Kd × D)) : Option Bool := if okK ks = true ∧ okK ls = true ∧ (ls.map fun e => e.1).Nodup then some (dicEq ks ls) else none
noncomputable def eq0 (x y : D) : Option Bool := match x, y with
  | .dic _ ks, .dic _ ls => dicT ks ls
  | x, y => leafT x y
noncomputable def eq1 (q : D → D → Option Bool) (x y : D) : Option Bool := match x, y with
  | .tup xs, .tup ys => tupT q xs ys
  | .lst _ xs, .lst _ ys => lstT q xs ys
  | x, y => eq0 x y
section
variable {X : Cx} {pins : List (Addr × Obj)} {σ : L2.St} {H G B : Hp} {s : Shared}
end
end VL

/-! VMr: != of tuples and lists that hold dicts; both as operators. -/
namespace PySem.SeqAt
open AutoSeq1 (wpAny_loadPart')
open MeetsSeq MeetsSeq2 MeetsSeq3 SeqRoads2
section
variable {prog : Program} {w : World}
theorem neV_tup (p q : Addr) (us ws : Array Value) (m m2 : Nat) (d1 d2 : Option Addr) (z1 z2 : Array (Option Value)) (f : Nat → Bool) :
    MeetsIn prog w (Builtin.«tuple.__ne__» ⟨[.ref p, .ref q], []⟩) (fun A R s => s.heap.get? p = some { cls := .type "tuple", dict := d1, data := .seq us m, slots := z1 } ∧
        s.heap.get? q = some { cls := .type "tuple", dict := d2, data := .seq ws m2, slots := z2 } ∧ (∀ j (g1 : j < us.size) (g2 : j < ws.size), EqIn prog w A.in1 s us[j] ws[j] (f j)) ∧
        R (.ok (.ret (.bool (!((List.range (min us.size ws.size)).all f && us.size == ws.size))))) s) :=
  .of_wp fun A R s h => by
    obtain ⟨hp, gl, dd, tk, os⟩ := s
    obtain ⟨hP, hQ, he, h⟩ := h
    have sub2 := AutoSeq1.sub_tuple_tuple
    have zl : (us.toList.zip ws.toList).length = min us.size ws.size := by simp
    wp_walk using wpAny_loadPart' hP, wpAny_loadPart' hQ, wpAny_forIn_list _ (fun rs b t => b.1 = none ∧ t = ⟨hp, gl, dd, tk, os⟩ ∧ ∃ k, rs = (us.toList.zip ws.toList).drop k ∧ R (.ok (.ret (.bool (!(((List.range (min us.size ws.size)).drop k).all f && us.size == ws.size))))) ⟨hp, gl, dd, tk, os⟩) _
    case turn =>
      rintro ⟨y, x⟩ rs b t ⟨hb', rfl, k, hz, hR⟩
      have lt : k < (us.toList.zip ws.toList).length := Nat.lt_of_not_le fun ge => by
        rw [List.drop_of_length_le ge] at hz; cases hz
      have lm : k < min us.size ws.size := by rw [← zl]; exact lt
      have k1 : k < us.size := by omega
      have k2 : k < ws.size := by omega
      rw [List.drop_eq_getElem_cons lt] at hz
      injection hz with e1 e2
      have ey : y = us[k] := by simpa using congrArg Prod.fst e1
      have ex : x = ws[k] := by simpa using congrArg Prod.snd e1
      subst ey ex
      have er : (List.range (min us.size ws.size)).drop k = k :: (List.range (min us.size ws.size)).drop (k + 1) := by
        rw [List.drop_eq_getElem_cons (by simpa using lm)]; simp
      rw [er, List.all_cons] at hR
      refine wpAny_bind (he k k1 k2 _ _ ?_)
      cases fk : f k
      · rw [fk] at hR
        wp_walk
        exact ⟨_, rfl, by simpa using hR⟩
      · rw [fk] at hR
        wp_walk
        exact ⟨rfl, rfl, k + 1, e2, by simpa using hR⟩
    case fin =>
      rintro ⟨b1, b2⟩ t ⟨hb', rfl, k, hz, hR⟩
      simp only at hb'
      subst hb'
      have ge : min us.size ws.size ≤ k := Nat.le_of_not_lt fun lt => by
        rw [List.drop_eq_getElem_cons (by rw [zl]; exact lt)] at hz; cases hz
      rw [List.drop_of_length_le (by simpa using ge)] at hR
      wp_walk
      exact ⟨_, rfl, by simpa [Builtin.Tuple.tupleCompareSizes, bne] using hR⟩
    case h => exact ⟨rfl, rfl, 0, rfl, by simpa using h⟩
theorem neV_tups {A : Around} {s : Shared} {E : Value → Shared → Prop} {p q : Addr} {us ws : Array Value} {f : Nat → Bool} {Q : Value → Shared → Prop} (hl : s.heap.IsTuple p us) (hb : s.heap.IsTuple q ws) (hu : A.units < cLine)
    (he : ∀ j (g1 : j < us.size) (g2 : j < ws.size), EqIn prog w A.in1 s us[j] ws[j] (f j)) (h : Q (.bool (!((List.range (min us.size ws.size)).all f && us.size == ws.size))) s) : wpAny (model prog w) A (richCompare .NotEq (.ref p) (.ref q)) Q E s := by
  obtain ⟨⟨c1, d1, a1, z1⟩, o1, hc1, m, hd1⟩ := id hl
  obtain ⟨⟨c2, d2, a2, z2⟩, o2, hc2, m2, hd2⟩ := id hb
  simp only at hc1 hd1 hc2 hd2
  subst hc1 hd1 hc2 hd2
  exact wpAny_richCompare_same_room (T := "tuple") (op := .NotEq) ⟨_, o1, rfl⟩ ⟨_, o2, rfl⟩ F.slot_tuple_ne (call_meetsIn F.slot_tuple_ne ⟨_, o1, rfl⟩ F.entry_tuple_ne (F.args_tuple_ne_2 _ _) (neV_tup p q us ws m m2 d1 d2 z1 z2 f)
    ⟨o1, o2, he, ⟨(fun x => nomatch x), h⟩⟩) hu
theorem neV_step (p q : Addr) (us ws : Array Value) (m m2 : Nat) (d1 d2 : Option Addr) (z1 z2 : Array (Option Value)) (hz : us.size = ws.size) (f : Nat → Bool) : ∀ k i : Nat, us.size - i = k →
    MeetsIn prog w (Builtin.«list.__eq__.loop» ⟨[.ref p, .ref q, rawInt i, rawInt 3], []⟩) (fun A R s => s.heap.get? p = some { cls := .type "list", dict := d1, data := .seq us m, slots := z1 } ∧
        s.heap.get? q = some { cls := .type "list", dict := d2, data := .seq ws m2, slots := z2 } ∧ (∀ j (g1 : j < us.size) (g2 : j < ws.size), EqIn prog w A.in1 s us[j] ws[j] (f j)) ∧ R (.ok (.ret (.bool (!((List.range us.size).drop i).all f)))) s)
  | 0, i, hk => fun A R s h => by
    obtain ⟨hp, gl, dd, tk, os⟩ := s
    obtain ⟨hP, hQ, he, h⟩ := h
    wp_walk using wpAny_loadPart' hP, wpAny_loadPart' hQ
    have n1 : us[((i : Nat) : Int).toNat]? = none := by simp; omega
    have n2 : ws[((i : Nat) : Int).toNat]? = none := by simp; omega
    have ed : (List.range us.size).drop i = [] := by simp; omega
    rw [ed] at h
    rw [n1, n2]
    wp_walk using wpAny_loadPart' hP, wpAny_loadPart' hQ
    show R (.ok (.ret (.bool (us.size != ws.size)))) _
    rw [hz]
    simpa using h
  | k + 1, i, hk => fun A R s h => by
    obtain ⟨hp, gl, dd, tk, os⟩ := s
    obtain ⟨hP, hQ, he, h⟩ := h
    wp_walk using wpAny_loadPart' hP, wpAny_loadPart' hQ
    have k1 : i < us.size := by omega
    have k2 : i < ws.size := by omega
    have n1 : us[((i : Nat) : Int).toNat]? = some us[i] := by simp [k1]
    have n2 : ws[((i : Nat) : Int).toNat]? = some ws[i] := by simp [k2]
    have ed : (List.range us.size).drop i = i :: (List.range us.size).drop (i + 1) := by
      rw [List.drop_eq_getElem_cons (by simpa using k1)]; simp
    have ec : ((i : Int) + 1) = ((i + 1 : Nat) : Int) := by omega
    rw [ed, List.all_cons] at h
    rw [n1, n2]
    refine wpAny_bind (he i k1 k2 _ _ ?_)
    cases fk : f i
    · rw [fk] at h
      wp_walk using wpAny_loadPart' hP, wpAny_loadPart' hQ
      rw [n1, n2]
      wp_walk
      simpa using h
    · rw [fk] at h
      wp_walk
      rw [ec]
      refine ⟨plainId_quiet plain_eq_loop _, codeAny_builtin entry_eq_loop ?_⟩
      rw [Around.under_plainId plain_eq_loop _]
      exact neV_step p q us ws m m2 d1 d2 z1 z2 hz f k (i + 1) (by omega) A R _ ⟨hP, hQ, he, by simpa using h⟩
theorem neV_lst (p q : Addr) (us ws : Array Value) (m m2 : Nat) (d1 d2 : Option Addr) (z1 z2 : Array (Option Value)) (hz : us.size = ws.size) (f : Nat → Bool) :
    MeetsIn prog w (Builtin.«list.__ne__» ⟨[.ref p, .ref q], []⟩) (fun A R s => s.heap.get? p = some { cls := .type "list", dict := d1, data := .seq us m, slots := z1 } ∧
        s.heap.get? q = some { cls := .type "list", dict := d2, data := .seq ws m2, slots := z2 } ∧ (∀ j (g1 : j < us.size) (g2 : j < ws.size), EqIn prog w A.in1 s us[j] ws[j] (f j)) ∧ R (.ok (.ret (.bool (!(List.range us.size).all f)))) s) := by
  intro A R s h
  obtain ⟨hp, gl, dd, tk, os⟩ := s
  obtain ⟨hP, hQ, he, h⟩ := h
  have sub3 := AutoSeq1.sub_list_list
  have nz : ¬ (us.size != ws.size) = true := by simp [hz]
  wp_walk using wpAny_loadPart' hP, wpAny_loadPart' hQ
  refine ⟨plainId_quiet plain_eq_loop _, codeAny_builtin entry_eq_loop ?_⟩
  rw [Around.under_plainId plain_eq_loop _]
  exact neV_step p q us ws m m2 d1 d2 z1 z2 hz f _ 0 rfl A R _ ⟨hP, hQ, he, by simpa using h⟩
theorem neV_lsts {A : Around} {s : Shared} {E : Value → Shared → Prop} {p q : Addr} {us ws : Array Value} {f : Nat → Bool} {Q : Value → Shared → Prop} (hl : s.heap.IsList p us) (hb : s.heap.IsList q ws) (hz : us.size = ws.size) (hu : A.units < cLine)
    (he : ∀ j (g1 : j < us.size) (g2 : j < ws.size), EqIn prog w A.in1 s us[j] ws[j] (f j)) (h : Q (.bool (!(List.range us.size).all f)) s) : wpAny (model prog w) A (richCompare .NotEq (.ref p) (.ref q)) Q E s := by
  obtain ⟨⟨c1, d1, a1, z1⟩, o1, hc1, m, hd1⟩ := id hl
  obtain ⟨⟨c2, d2, a2, z2⟩, o2, hc2, m2, hd2⟩ := id hb
  simp only at hc1 hd1 hc2 hd2
  subst hc1 hd1 hc2 hd2
  exact wpAny_richCompare_same_room (T := "list") (op := .NotEq) ⟨_, o1, rfl⟩ ⟨_, o2, rfl⟩ F.slot_list_ne (call_meetsIn F.slot_list_ne ⟨_, o1, rfl⟩ F.entry_list_ne (F.args_list_ne_2 _ _) (neV_lst p q us ws m m2 d1 d2 z1 z2 hz f)
    ⟨o1, o2, he, ⟨(fun x => nomatch x), h⟩⟩) hu
end
end PySem.SeqAt
namespace VL
open PySem PySem.Spec PyProof.Rows L2
variable [LamT]
open PySem.SeqAt (EqIn EqAt rcIn_lists rcIn_tuples neV_tups neV_lsts RcNeAt)
section
variable {X : Cx} {K : PySem.W.Frag}
end
end VL

/-! VMs: a member of a tuple made on the spot. -/
namespace VL
open PySem PySem.Spec PyProof.Rows L2
variable [LamT]

theorem Dats.at {K : PySem.W.Frag} {G B H : Hp} {d : D} : ∀ {n : Nat} {U : List Addr} {vs : List V} {ds : List D}, Dats K G B H U vs ds → ds[n]? = some d → ∃ v T, vs[n]? = some v ∧ d.old ∧ Dat K G B H T v d ∧ T.Sublist U
  | _, _, _, _, .nil, e => by simp at e
  | 0, _, _, _, @Dats.cons _ _ _ _ _ S T v d0 vs ds n h t, e => by
    have e : d0 = d := by simpa using e
    subst e
    exact ⟨v, S, rfl, n, h, List.sublist_append_left _ _⟩
  | k + 1, _, _, _, @Dats.cons _ _ _ _ _ S T v d0 vs ds n h t, e => by
    obtain ⟨w, T', h1, h2, h3, h4⟩ := Dats.at (n := k) t (by simpa using e)
    exact ⟨w, T', by simpa using h1, h2, h3, h4.trans (List.sublist_append_right _ _)⟩
end VL

/-! VMt: isinstance of a caught error; slices up to, and from, a drawn place. -/
namespace VL
open PySem PySem.Spec PyProof.Rows L2
variable [LamT]

/-! ### isinstance of a caught error -/
/-! ### slices at a place that is drawn -/
end VL

/-! VMu: str of a number or a text; slices from a drawn place. -/
namespace VL
open PySem PySem.Spec PyProof.Rows L2
variable [LamT]

end VL

/-! VMv: numbers as texts; rows joined and parted. -/
namespace VL
open PySem PySem.Spec PyProof.Rows L2
variable [LamT]

end VL

/-! VMw: isinstance of own classes. -/
namespace VL
open PySem PySem.Spec PyProof.Rows L2
variable [LamT]

/-- what isinstance asks of an own class -/
structure InsK (K : PySem.W.Frag) (C : Addr) : Prop where
  cl : Cls K C
  ha : PySem.W.findIn K (.ref C) "__class__" = some (some (.builtin "object.__class__"))
  hn : PySem.W.specialIn K (.builtin "object.__class__") "__get__" = some (some (.builtin "getset_descriptor.__get__"))
  ht : PySem.W.takesIn K (.builtin "object.__class__") = some true
  hm : PySem.W.mroIn K C (.type "object") = some true
end VL

/-! VMx: .clear() of a dict at a path. -/
namespace VL
open PySem PySem.Spec PyProof.Rows L2
variable [LamT]

end VL

/-! VMy: errors with fields, made by their own __init__; several except clauses. -/
namespace PySem.W
open PySem PySem.Spec PySem.Calls PyProof.Rows
section
variable {prog : Program} {w : World} {A : Around} {E : Value → Shared → Prop} {s : Shared} {K : Frag} {x D : Addr} {ox : Obj} {od : Option Obj}
end
end PySem.W
namespace VL
open PySem PySem.Spec PyProof.Rows L2
variable [LamT]

/-! ### the making -/
/-- an own class over ValueError, whose __init__ is named by it -/
structure BaseI (K : PySem.W.Frag) (mg : Str → Option Value) (x : Str) (B : Addr) : Prop where
  g : mg x = some (.ref B)
  sp : PySem.W.specialIn K (.ref B) "__getattribute__" = some (some (.builtin "type.__getattribute__"))
  rd : PySem.W.readsIn K B (.type "type") = true
  fc : PySem.W.findCls K (.ref B) (.type "type") "__init__" = some (.val (.builtin "ValueError.__init__"))
section
variable {X : Cx} {o e : Expr} {es : List Expr} {to te : TE} {ta : TA} {x : Str} {B : Addr} {p p' p1 p2 pos : Pos}
end
/-- what the __init__ of two fields leaves -/
noncomputable def spInit2 (K : PySem.W.Frag) (n1 n2 : Str) : Sp := fun vs H Q E => ∃ (a C : Addr) (y1 y2 : V), vs = [.ref a, y1, y2] ∧ OexC K C ∧ PySem.W.findIn K (.ref C) n1 = some none ∧ PySem.W.findIn K (.ref C) n2 = some none ∧ H a = some (exo a C none) ∧
  ∀ dx, H dx = none → dx ≠ a → Q .non (upd (upd (upd H dx (exd dx [(n1, y1)])) a (exo a C (some dx))) dx (exd dx [(n2, y2), (n1, y1)]))
/-- the promise of such an __init__ of the class at C -/
structure XMt (P : Program) (w : World) (K : PySem.W.Frag) (mg : Str → Option Value) (base : Heap) (C : Addr) (n1 n2 : Str) (k : Nat) : Prop where
  ex : ∃ (f : Addr) (fd : FuncData) (ps : List Str), FnOk P w K mg base (L2.CX P w) k f fd ps (spInit2 K n1 n2) ∧ Meth K C "__init__" f ∧ Binds K fd ps []
/-- what is known of such a class -/
structure ExF (K : PySem.W.Frag) (mg : Str → Option Value) (x : Str) (C : Addr) (n1 n2 : Str) : Prop where
  g : mg x = some (.ref C)
  o : OexC K C
  h1 : PySem.W.findIn K (.ref C) n1 = some none
  h2 : PySem.W.findIn K (.ref C) n2 = some none
/-! ### several except clauses -/
/-- how the error that a suite holds is known -/
structure HeldX (K : PySem.W.Frag) (y : Exn) (cls : Value) (d : Option Addr) : Prop where
  c : cls = y.cls
  d : y.flds.isSome = d.isSome
noncomputable abbrev XSuite := Exn → Addr → Option Addr → FS
structure Hdl where
  c : Value
  i : Option Nat
  ts : XSuite
noncomputable abbrev XTs := Addr → Value → Option Addr → TS
noncomputable def Ends.gone (D : Ends) (i : Nat) : Ends := { nx := fun z K' => D.nx (z.set i none) K', rt := D.rt, bk := fun z K' => D.bk (z.set i none) K', ct := fun z K' => D.ct (z.set i none) K' }
inductive HdsAny (X : Cx) : List ExceptHandler → List (Value × Option Nat × XTs) → Prop
  | nil : HdsAny X [] []
  | cons {x : Str} {c : Value} {n : Option Str} {oi : Option Nat} {ts : XTs} {b₀ : Stmt} {suite : List Stmt} {np pos' : Pos} {hds : List ExceptHandler} {l : List (Value × Option Nat × XTs)} (hc : Names X x c)
      (hn : match n, oi with
        | some n, some i => X.N[i]? = some n ∧ X.env.kindOf n = some .local
        | none, none => True
        | _, _ => False)
      (hsu : ∀ (a : Addr) (oe : Obj) (cls : Value) (d : Option Addr) (pn : List (Addr × Obj)), Zc cls d oe → (∃ vs, oe.data = .fields vs) → PSs (X.suite a ((a, oe) :: pn)) (b₀ :: suite) (ts a cls d)) (r : HdsAny X hds l) :
      HdsAny X (.ExceptHandler (some (.Name x np)) n (b₀ :: suite) pos' :: hds) ((c, oi, ts) :: l)
section
variable {X : Cx} {body : List Stmt} {h₀ : ExceptHandler} {hds : List ExceptHandler} {l : List (Value × Option Nat × XTs)} {pos : Pos} {tb : WX → TS} {Wout : WX}
variable {W : WX}
/-- the clauses of a try, by their readings -/
inductive HdsX (X : Cx) : List ExceptHandler → List Hdl → Prop
  | nil : HdsX X [] []
  | cons {x : Str} {c : Value} {n : Option Str} {oi : Option Nat} {ts : XSuite} {b₀ : Stmt} {suite : List Stmt} {np pos' : Pos} {hds : List ExceptHandler} {l : List Hdl} (hc : Names X x c)
      (hn : match n, oi with
        | some n, some i => X.N[i]? = some n ∧ X.env.kindOf n = some .local
        | none, none => True
        | _, _ => False)
      (hsu : ∀ (a : Addr) (oe : Obj) (cls : Value) (d : Option Addr) (pn : List (Addr × Obj)) (y : Exn), Zc cls d oe → (∃ vs, oe.data = .fields vs) → HeldX X.K y cls d → VSs (X.suite a ((a, oe) :: pn)) W0 (b₀ :: suite) (ts y a d)) (r : HdsX X hds l) :
      HdsX X (.ExceptHandler (some (.Name x np)) n (b₀ :: suite) pos' :: hds) (⟨c, oi, ts⟩ :: l)
noncomputable def xts (K : PySem.W.Frag) (ts : XSuite) : XTs := fun a cls d E σ H => ∃ y, HeldX K y cls d ∧ upS K W0 (ts y a d) E σ H
theorem HdsX.any : ∀ {hds : List ExceptHandler} {l : List Hdl}, HdsX X hds l → HdsAny X hds (l.map fun h => (h.c, h.i, xts X.K h.ts))
  | _, _, .nil => .nil
  | _, _, .cons hc hn hsu r => .cons hc hn (fun a oe cls d pn hz hfl => ⟨fun pins s σ H E I ⟨y, hh, h⟩ => (hsu a oe cls d pn y hz hfl hh).run pins s σ H E I h⟩) r.any
/-! ### e.f, isinstance(e, ..) -/
/-- the facts by which such a field is read -/
structure XfF (K : PySem.W.Frag) (C : Addr) (n : Str) : Prop where
  c : XfC K C
  n : PySem.W.findIn K (.ref C) n = some none
end
/-! ### the reckoning -/
end VL

/-! VMz: methods of texts without arguments. -/
namespace VL
open PySem PySem.Spec PyProof.Rows L2
variable [LamT]
section
variable {X : Cx} {W : WX} {o : Expr} {fa : FQ} {apos pos : Pos}
end
/-! ### a text's method, what it takes being made on the way -/
section
variable {X : Cx} {W : WX} {o e : Expr} {ga gb : FG} {apos pos : Pos}
end
/-! ### >= of data -/
/-! ### a text times a number -/
end VL

/-! VNa: sum(d.values()). -/
namespace L2
open PySem PySem.Spec PyProof.Rows
section
variable {X : Cx}
variable {o : Expr} {p pos apos mpos : Pos} {td : TE}
end
end L2
namespace VL
open PySem PySem.Spec PyProof.Rows L2
variable [LamT]
section
variable {X : Cx} {W : WX} {o : Expr} {fo : FQ} {p pos apos mpos : Pos}
end
end VL

/-! VNb: xs.count(x), xs a list of texts. -/
namespace VL
open PySem PySem.Spec PyProof.Rows L2
variable [LamT]
section
variable {X : Cx} {W : WX} {o e : Expr} {fa fb : FQ} {apos pos : Pos}
end
end VL

/-! VNc: a list times a number. -/
namespace VL
open PySem PySem.Spec PyProof.Rows L2
variable [LamT]
theorem Dts.rep {K : PySem.W.Frag} {G B H : Hp} {vs : List V} {ds : List D} (h : Dts K G B H vs ds) : ∀ n : Nat, Dts K G B H (List.replicate n vs).flatten (List.replicate n ds).flatten
  | 0 => .nil
  | n + 1 => by
    rw [List.replicate_succ, List.replicate_succ, List.flatten_cons, List.flatten_cons]
    exact h.append (h.rep n)
end VL

/-! VNd: a dict display, {k: v, ..}, keys ints and texts, values that own nothing. -/
namespace VL
open PySem PySem.Spec PyProof.Rows L2
variable [LamT]
noncomputable abbrev FPr := Plc → Out Exn (List (D × D))
noncomputable def KPr (K : PySem.W.Frag) (G B H : Hp) (Q : List (V × V) → Hp → Prop) (ps : List (D × D)) : Prop := ∀ G' H' vs, Ext G H G' H' → Dta K G' B H' (vs.map (·.1)) (ps.map (·.1)) → Dta K G' B H' (vs.map (·.2)) (ps.map (·.2)) → (∀ v d, (v, d) ∈ (vs.map (·.2)).zip (ps.map (·.2)) → Fresh H G' v d) → Q vs H'
noncomputable def upQPr (K : PySem.W.Frag) (W : WX) (f : FPr) (σ : L2.St) (H : Hp) (Q : List (V × V) → Hp → Prop) : Prop := ∃ (G B : Hp) (As : List V) (ρ : Plc), SOk K G B H As σ ρ ∧ (f ρ).P (KPr K G B H Q) (EX K W G B H σ)
structure QPr (X : Cx) (W : WX) (pos : Pos) (keys : List (Option Expr)) (values : List Expr) (f : FPr) : Prop where
  ex : ∃ trs, PPs X pos keys values trs ∧ ∀ σ H Q, upQPr X.K W f σ H Q → tPairs trs σ H Q
section
variable {X : Cx} {W : WX} {pos : Pos}
end
section
variable {X : Cx} {W : WX} {pos : Pos}
end
end VL

/-! VNe: xs.index(x), xs a list of plain things. -/
namespace VL
open PySem PySem.Spec PyProof.Rows L2
variable [LamT]
section
variable {X : Cx} {W : WX} {o e : Expr} {fa fb : FQ} {apos pos : Pos}
end
end VL

/-! VNf: d[k] += n, whole numbers. -/
namespace VL
open PySem PySem.Spec PyProof.Rows L2
variable [LamT]
section
variable {X : Cx} {W : WX} {o i value : Expr} {pos tpos : Pos} {fp : FP} {fq fv : FQ}
end
theorem dgetD_s {f : Fl} {kvs : List (Kd × D)} {z : Str} : dgetD (.dic f kvs) (.str z) = some (getK kvs (kS z)) := rfl
end VL

/-! VNg: `a or b`, `a and b` of truths as values, where what is asked changes places. -/
namespace VL
open PySem PySem.Spec PyProof.Rows L2
variable [LamT]
section
variable {X : Cx} {W : WX} {a b : Expr} {rest : List Expr} {pos : Pos} {ga gb : FG}
end
end VL

/-! VNh: a dict in a dict, d["k"], is walked. -/
namespace VL
open PySem PySem.Spec PyProof.Rows L2
variable [LamT]
end VL

/-! VNi: xs[i] = v, xs a name, where the place asked for changes places; what is put owns nothing. -/
namespace VL
open PySem PySem.Spec PyProof.Rows L2
variable [LamT]
section
variable {X : Cx} {W : WX} {e ix : Expr} {x : Str} {pos pos' p : Pos} {gi ga : FG}
end
end VL

/-! VNj: xs.remove(x), texts. -/
namespace VL
open PySem PySem.Spec PyProof.Rows L2
variable [LamT]
end VL

/-! VNk: list(range(n)). -/
namespace VL
open PySem PySem.Spec PyProof.Rows L2
variable [LamT]
section
variable {X : Cx} {W : WX} {a : Expr} {fa : FQ} {p p2 pos pos2 : Pos}
end
/-! ### reckoning -/
end VL

/-! VNl: min(p), max(p), p a tuple of two texts. -/
namespace VL
open PySem PySem.Spec PyProof.Rows L2
variable [LamT]
/-! i ** j, i of a load's size -/
/-! a function by another name of the module -/
theorem VFn.al {P : Program} {w : World} {K : PySem.W.Frag} {mg : Str → Option Value} {base : Heap} {x y : Str} {k : Nat} {ms : List Md} {F : Fn} (h : VFn P w K mg base x k ms F) (e : mg y = mg x) : VFn P w K mg base y k ms F := by
  obtain ⟨f, fd, ps, h1, h2, h3, h4⟩ := h.ex
  exact ⟨f, fd, ps, h1, e.trans h2, h3, h4⟩
end VL

/-! VNm: for a, b in d: d a dict whose keys are tuples. -/
namespace VL
open PySem PySem.Spec PyProof.Rows L2
variable [LamT]
section
variable {K : PySem.W.Frag} {W : WX} {G B Φ H : Hp} {As : List V} {S : Pi → List Addr} {σ : L2.St} {ρ : Plc}
end
/-! ### reckoning -/
end VL

/-! VNn: d.pop(k), d a dict at a path. -/
namespace VL
open PySem PySem.Spec PyProof.Rows L2
variable [LamT]

noncomputable def outD (kvs : List (Kd × D)) (k : Kd) : List (Kd × D) := kvs.filter fun e => decide (e.1 ≠ k)
theorem DatM.drop {K : PySem.W.Frag} {G B H : Hp} {κ : Type} [DecidableEq κ] {f : κ → Kd} (hf : ∀ a b, f a = f b → a = b) {k : κ} : ∀ {U : List Addr} {vs : List (κ × V)} {ds : List (Kd × D)}, DatM K G B H U (vs.map fun e => (f e.1, e.2)) ds → ∃ U' L, (U' ++ L).Perm U ∧ DatM K G B H U' ((L2.dropK vs k).map fun e => (f e.1, e.2)) (outD ds (f k))
  | _, [], _, h => by cases h; exact ⟨[], [], .refl _, .nil⟩
  | _, (k0, v0) :: vs, _, h => by
    simp only [List.map_cons] at h
    cases h with
    | @cons S0 T0 _ _ d0 _ ds nn h t =>
      obtain ⟨U', L, p, r⟩ := DatM.drop (k := k) hf t
      by_cases e : k0 = k
      · subst e
        refine ⟨U', L ++ S0, ?_, ?_⟩
        · rw [← List.append_assoc]
          exact (p.append_right S0).trans List.perm_append_comm
        · unfold L2.dropK outD at r ⊢
          rw [List.filter_cons_of_neg (by simp), List.filter_cons_of_neg (by simp)]
          exact r
      · have e2 : ¬ f k0 = f k := fun z => e (hf _ _ z)
        refine ⟨S0 ++ U', L, by rw [List.append_assoc]; exact p.append_left S0, ?_⟩
        unfold L2.dropK outD at r ⊢
        rw [List.filter_cons_of_pos (by simpa using e), List.filter_cons_of_pos (by simpa using e2)]
        exact .cons nn h r
/-! ### the room within an except suite -/
section
omit [LamT]
end
end VL

/-! VNo: how calls of methods that change their instance are reckoned. -/
namespace VL
open PySem PySem.Spec PyProof.Rows L2
variable [LamT]
noncomputable def fmQ2 (as : List Ag) (ρ : Plc) (x : List (Option (Lc × D)) × Plc) (b : Bool) : Out (Exn × Plc) (List D × List (Option Lc) × Plc) := if b = true then faQK as ρ (some x) else .no
noncomputable def fmQK (C : Addr) (m : Str) (as : List Ag) (ρ : Plc) : Option (List (Option (Lc × D)) × Plc) → Option D → Out (Exn × Plc) (List D × List (Option Lc) × Plc)
  | some x, some d => fmQ2 as ρ x (isObj C m d)
  | _, _ => .no
theorem fmQ_ap {C : Addr} {m : Str} {i : Nat} {as : List Ag} {ρ : Plc} : fmQ C m (.m i :: as) ρ = fmQK C m (.m i :: as) ρ (takeH ((Ag.m i :: as).map Ag.sl) ρ) (look ρ i) := by
  unfold fmQ fmQK
  rw [faQ_ap]
  cases takeH ((Ag.m i :: as).map Ag.sl) ρ with
  | none => cases look ρ i <;> rfl
  | some x =>
    obtain ⟨hs, ρ0⟩ := x
    show (if (match look ρ i with | some d => isObj C m d | none => false) = true then faQK (.m i :: as) ρ (some (hs, ρ0)) else Out.no) = _
    cases look ρ i <;> rfl
theorem fmQK_some {C : Addr} {m : Str} {as : List Ag} {ρ : Plc} {x : List (Option (Lc × D)) × Plc} {d : D} : fmQK C m as ρ (some x) (some d) = fmQ2 as ρ x (isObj C m d) := rfl
theorem fmQ2_t {as : List Ag} {ρ : Plc} {x : List (Option (Lc × D)) × Plc} : fmQ2 as ρ x true = faQK as ρ (some x) := rfl
/-! ### xs.count(b), xs a list of truths -/
section
variable {X : Cx} {W : WX} {o e : Expr} {fa fb : FQ} {apos pos : Pos}
end
end VL

/-! VNp: (x, y) == e, x and y names whose places e does not change for them: they are read when e is there. -/
namespace VL
open PySem PySem.Spec PyProof.Rows L2
variable [LamT]
section
variable {X : Cx} {W : WX} {b : Expr} {gb : FG} {pos p p1 p2 : Pos} {x y : Str}
end
end VL

/-! VNq: sorted(xs), xs tuples whose first places are texts, no two alike: what stands behind them is not looked at. -/
namespace VL
open PySem PySem.Spec PyProof.Rows L2
variable [LamT]
section
variable {prog : Program} {w : World} {A : Around} {s : Shared}
end
/-! ### on trees -/
noncomputable def headD : D → Option Str
  | .tup (.str x :: _) => some x
  | _ => none
noncomputable def hd1 (d : D) : Str := (headD d).getD ""
end VL

/-! VNr: a comprehension over the values, the entries or the keys of a dict that is made on the spot. -/
namespace L2
open PySem PySem.Spec PyProof.Rows
end L2
namespace VL
open PySem PySem.Spec PyProof.Rows L2
variable [LamT]
section
variable {X : Cx} {W : WX} {pos spos : Pos} {elt tg' iter e : Expr} {ifs : List Expr} {scope : Scope} {own : List (Str × Nat)} {fq : FQ} {tg : Tg} {tt : FT} {te : FQ} {w : Wd}
end
end VL

/-! VNs: a method with defaults, called with all its arguments. -/
namespace VL
open PySem PySem.Spec PyProof.Rows L2
variable [LamT]
section
variable {P : Program} {w : World} {K : PySem.W.Frag} {mg : Str → Option Value} {base : Heap}
end
end VL

/-! VNt: tuple(d), d a dict: its keys. -/
namespace PySem
open Sem (wp)
open AutoSeq1 (wpAny_loadPart')
section
variable {prog : Program} {w : World} {A : Around} {E : Value → Shared → Prop} {s : Shared} {r d : Addr} {n : Nat} {P : Nat → Value → Prop} {OK : Heap → Prop}
end
end PySem
namespace VL
open PySem PySem.Spec PyProof.Rows L2
variable [LamT]
section
variable {X : Cx} {W : WX} {K : PySem.W.Frag}
end
end VL

/-! VNu: x != d, d a dict, x a dict too, or None, a text, a list. -/
namespace PySem
namespace SeqAt
open AutoSeq1 (wpAny_loadPart')
section
variable {A : Around} {s : Shared}
end
end SeqAt
end PySem
namespace VL
open PySem PySem.Spec PyProof.Rows L2
variable [LamT]
open PySem.SeqAt (RcNeAt)
section
variable {X : Cx} {K : PySem.W.Frag}
end
end VL

/-! VNv: x in t, x not in t: t a tuple of data of any depth. -/
namespace VL
open PySem PySem.Spec PyProof.Rows L2
variable [LamT]
section
variable {X : Cx} {K : PySem.W.Frag}
end
end VL

/-! VNw: xs.index(x), xs a list of data of any depth. -/
namespace VL
open PySem PySem.Spec PyProof.Rows L2
variable [LamT]
section
variable {X : Cx} {W : WX} {o e : Expr} {fa fb : FQ} {apos pos : Pos}
end
end VL

/-! VSa: sum(xs, []) of lists; what never runs, as a list of statements. -/
namespace PySem
open Sem (wp)
theorem args_sum2 (a b : Value) : argsOk "sum" ⟨[a, b], []⟩ := by unfold argsOk; kernel_rfl
theorem sub_list_bytes : isSubtype (.type "list") (.type "bytes") = pure false := by rw [isSubtype_type]; kernel_rfl
theorem sub_list_bytearray : isSubtype (.type "list") (.type "bytearray") = pure false := by rw [isSubtype_type]; kernel_rfl
theorem sub_list_str : isSubtype (.type "list") (.type "str") = pure false := by rw [isSubtype_type]; kernel_rfl
noncomputable def preL (vss : Nat → Array Value) : Nat → Array Value
  | 0 => #[]
  | i + 1 => preL vss i ++ vss i
section
variable {prog : Program} {w : World} {A : Around} {R : Result → Shared → Prop} {I : Addr} {fp wr : List Addr} {n : Nat} {P : Nat → Value → Prop} {St : Nat → Heap → Prop}
theorem sum_lists_loop (W : Walks prog w A.in1 I fp wr n P St) {h0 : Heap} (vss : Nat → Array Value) (hval : ∀ i v, P i v → ∃ b m, v = .ref b ∧ IsL h0 b (vss i) m ∧ b ∉ wr) (S : Addr) (hSf : S ∉ fp) (hS0 : h0.objs.size ≤ S) (hwS : ∀ b ∈ wr, b < S) (hz : ∀ i, i ≤ n → (preL vss i).size ≤ sizeLine) :
    ∀ (k i : Nat) (s : Shared) (t : Addr) (c m : Nat), n - i = k → i ≤ n → St i s.heap → (∀ b o, b ∉ wr → h0.get? b = some o → s.heap.get? b = some o) → t ≠ S → t ∉ wr →
    s.heap.get? S = some { cls := .type "list", dict := none, data := .seq #[.ref t] c, slots := #[] } → IsL s.heap t (preL vss i) m →
    (∀ h' tk t' m', (∀ b o, b ∉ wr → h0.get? b = some o → h'.get? b = some o) → IsL h' t' (preL vss n) m' → (t' = t ∨ h0.objs.size ≤ t') → R (.ok (.ret (.ref t'))) { s with heap := h', toks := tk }) →
    codeAny (model prog w) A (.builtin "sum.loop" ⟨[.ref I, .ref S, rawInt 2, rawInt 0], []⟩) R s := by
  have hSw : S ∉ wr := fun h => hSf (W.sub _ h)
  intro k
  induction k with
  | zero =>
    intro i s t c m hk hi hst kp tS tw hS hT hR
    have hin : i = n := by omega
    subst hin
    refine codeAny_builtin F.entry_sum_loop ?_
    rw [Around.under_plainId F.plain_sum_loop _]
    show wpAny _ A.in1 (seqItems? (.ref S) >>= _) _ _ s
    refine wpAny_bind (wpAny_seqItems hS rfl ?_)
    show wpAny _ A.in1 (tryCatch (pyNext (.ref I)) _ >>= _) _ _ s
    refine wpAny_bind (wpAny_tryCatch (W.done s _ _ hst fun h' tk hk' => ?_))
    exact wpAny_pure (hR h' tk t m (fun b o hb e => hk' b o hb (kp b o hb e)) (hk' t _ tw hT) (.inl rfl))
  | succ k ih =>
    intro i s t c m hk hi hst kp tS tw hS hT hR
    have hlt : i < n := by omega
    refine codeAny_builtin F.entry_sum_loop ?_
    rw [Around.under_plainId F.plain_sum_loop _]
    show wpAny _ A.in1 (seqItems? (.ref S) >>= _) _ _ s
    refine wpAny_bind (wpAny_seqItems hS rfl ?_)
    show wpAny _ A.in1 (tryCatch (pyNext (.ref I)) _ >>= _) _ _ s
    refine wpAny_bind (wpAny_tryCatch (W.item i s _ _ hlt hst fun v h' tk hP hst' hk' => ?_))
    obtain ⟨b, mb, rfl, hB, hbw⟩ := hval i v hP
    have hS' := hk' S _ hSw hS
    have hT' : IsL h' t (preL vss i) m := hk' t _ tw hT
    have hB' : IsL h' b (vss i) mb := hk' b _ hbw (kp b _ hbw hB)
    have sz := hz (i + 1) hlt
    simp only [preL, Array.size_append] at sz
    show wpAny _ A.in1 ((holding [Value.ref b] (binaryOp .Add (.ref t) (.ref b))).attempt >>= _) _ _ _
    refine wpAny_bind (wpAny_attempt (wpAny_holding (PySem.P.add_list (s := { s with heap := h', toks := tk }) hT' hB' ?_ sz)))
    have hSl : S < h'.objs.size := Heap.lt_size hS'
    have hSp : (h'.push { cls := .type "list", data := .seq (preL vss i ++ vss i) }).get? S = _ := Heap.get?_push_of_some _ hS'
    have hTp : IsL (h'.push { cls := .type "list", data := .seq (preL vss i ++ vss i) }) h'.objs.size (preL vss (i + 1)) 0 := IsL.new _ _
    have neS : S ≠ h'.objs.size := Nat.ne_of_lt hSl
    show wpAny _ A.in1 (updateSeq S (fun _ => #[.ref h'.objs.size]) >>= _) _ _ _
    refine wpAny_bind ?_
    refine wpAny_updateSeq hSp rfl ?_
    have hS2 := Heap.get?_update_self (Obj.mapSeq fun _ => #[Value.ref h'.objs.size]) hSp rfl
    refine wpAny_bind (wpAny_letGo ?_)
    refine wpAny_bind ?_
    refine wpAny_updateSeq hS2 rfl (wpAny_pure ⟨plainId_quiet F.plain_sum_loop _, ih (i + 1) _ h'.objs.size _ 0 (by omega) hlt (W.frame _ _ _ hst' fun b hb o e => ?_) (fun b o hb e => ?_) (Ne.symm neS) (fun q => ?_) (Heap.get?_update_self _ hS2 rfl) ?_ fun h'' tk'' t'' m'' k1 k2 k3 => ?_⟩)
    · exact (Heap.get?_update_other _ _ (fun h : S = b => hSf (by rw [h]; exact hb))).trans ((Heap.get?_update_other _ _ (fun h : S = b => hSf (by rw [h]; exact hb))).trans (Heap.get?_push_of_some _ e))
    · have ne : S ≠ b := fun z => absurd (Nat.lt_of_lt_of_le (Heap.lt_size e) hS0) (by rw [z]; exact Nat.lt_irrefl _)
      exact (Heap.get?_update_other _ _ ne).trans ((Heap.get?_update_other _ _ ne).trans (Heap.get?_push_of_some _ (hk' b o hb (kp b o hb e))))
    · exact absurd (Nat.lt_trans (hwS _ q) hSl) (Nat.lt_irrefl _)
    · exact (Heap.get?_update_other _ _ neS).trans ((Heap.get?_update_other _ _ neS).trans hTp)
    · refine hR h'' tk'' t'' m'' k1 k2 (.inr ?_)
      rcases k3 with rfl | k3
      · exact Nat.le_trans hS0 (Nat.le_of_lt hSl)
      · exact k3
end
section
variable {prog : Program} {w : World} {A : Around} {E : Value → Shared → Prop} {s : Shared}
theorem call_sum_lists {l p0 : Addr} {items : Array Value} {m0 : Nat} (vss : Nat → Array Value) {Q : Value → Shared → Prop} (calm : A.handled = none) (hl : s.heap.IsList l items) (hp0 : IsL s.heap p0 #[] m0)
    (hit : ∀ i v, items[i]? = some v → ∃ b m, v = .ref b ∧ IsL s.heap b (vss i) m) (hz : ∀ i, i ≤ items.size → (preL vss i).size ≤ sizeLine)
    (then_ : ∀ h' tk t' m', (∀ b o, s.heap.get? b = some o → h'.get? b = some o) → IsL h' t' (preL vss items.size) m' → (t' = p0 ∨ s.heap.objs.size ≤ t') → Q (.ref t') { s with heap := h', toks := tk }) :
    wpAny (model prog w) A (call (.builtin "sum") [.ref l, .ref p0]) Q E s := by
  refine call_function_tree F.kind_sum F.plain_sum F.entry_sum (args_sum2 _ _) ?_
  unfold Builtin.«sum»
  simp only [List.length_cons, List.length_nil]
  rw [if_neg (by decide)]
  refine wpAny_bind (wpAny_of_eq (show Builtin.Builtins.bindParams "sum" ["start"] 0 ⟨[.ref p0], []⟩ = pure [some (.ref p0)] from rfl) ?_)
  refine wpAny_bind (wpAny_pyIter_list hl ?_)
  have calm2 : A.in1.handled = none := by simp [calm]
  have lt : l < s.heap.objs.size := by
    obtain ⟨o, ho, _⟩ := hl
    exact Heap.lt_size ho
  have p0l : p0 < s.heap.objs.size := Heap.lt_size hp0
  have W := Walks.list (prog := prog) (w := w) calm2 s.heap.objs.size l (Nat.ne_of_lt lt) items
  have hp1 := fun (o : Obj) => hp0.push o
  refine wpAny_bind (wpAny_pure ?_)
  simp only [List.forIn_cons, List.forIn_nil]
  refine wpAny_bind (wpAny_bind (wpAny_bind (wpAny_isInstance (T := "list") (b := false) ⟨_, hp1 _, rfl⟩ sub_list_str ?_)))
  simp only [Bool.false_eq_true, if_false]
  refine wpAny_pure (wpAny_bind (wpAny_bind (wpAny_isInstance (T := "list") (b := false) ⟨_, hp1 _, rfl⟩ sub_list_bytes ?_)))
  simp only [Bool.false_eq_true, if_false]
  refine wpAny_pure (wpAny_bind (wpAny_bind (wpAny_isInstance (T := "list") (b := false) ⟨_, hp1 _, rfl⟩ sub_list_bytearray ?_)))
  simp only [Bool.false_eq_true, if_false]
  refine wpAny_pure (wpAny_pure ?_)
  refine wpAny_bind (wpAny_newObj_type ?_)
  have sz : ∀ o : Obj, (s.heap.push o).objs.size = s.heap.objs.size + 1 := fun o => Heap.size_push ..
  refine wpAny_pure ⟨plainId_quiet F.plain_sum_loop _, sum_lists_loop W (h0 := s.heap) vss (fun i v hv => ?_) (s.heap.push _).objs.size ?_ ?_ ?_ hz items.size 0 _ p0 0 m0 rfl (Nat.zero_le _) (W.frame _ _ _ ⟨⟨_, Heap.get?_push_size _ rfl, rfl, rfl⟩, hl.push _⟩ fun b _ o e => Heap.get?_push_of_some _ e) (fun b o _ e => Heap.get?_push_of_some _ (Heap.get?_push_of_some _ e)) ?_ ?_ (Heap.get?_push_size _ rfl) (Heap.get?_push_of_some _ (hp1 _)) fun h' tk t' m' k1 k2 k3 => ?_⟩
  · obtain ⟨b, m, e, hb⟩ := hit i v hv
    exact ⟨b, m, e, hb, fun q => absurd (Heap.lt_size hb) (by rw [List.mem_singleton.mp q]; exact Nat.lt_irrefl _)⟩
  · rw [sz]
    simp only [List.mem_cons, List.not_mem_nil, or_false, not_or]
    exact ⟨Nat.succ_ne_self _, fun q => absurd lt (by rw [← q]; exact Nat.not_lt.mpr (Nat.le_succ _))⟩
  · rw [sz]; exact Nat.le_succ _
  · intro b hb
    rw [List.mem_singleton.mp hb, sz]
    exact Nat.lt_succ_self _
  · rw [sz]
    exact Nat.ne_of_lt (Nat.lt_succ_of_lt p0l)
  · exact fun q => absurd p0l (by rw [List.mem_singleton.mp q]; exact Nat.lt_irrefl _)
  · refine then_ h' tk t' m' (fun b o e => k1 b o (fun q => absurd (Heap.lt_size e) (by rw [List.mem_singleton.mp q]; exact Nat.lt_irrefl _)) e) k2 k3
end
end PySem
namespace VL
open PySem PySem.Spec PyProof.Rows L2
variable [LamT]
/-! ### sum(xs, []) -/
section
variable {X : Cx}
/-- what lists hold, one behind the other -/
noncomputable def catV : List (List V) → List V
  | [] => []
  | x :: xs => x ++ catV xs
noncomputable def rSumL (K : PySem.W.Frag) : List V → Hp → VK → Prop := fun xs H Q => ∃ (l p : Addr) (bs : List (Addr × List V)), xs = [V.ref l, V.ref p] ∧ SqL K H l (bs.map fun b => V.ref b.1) ∧ H p = some (.lst []) ∧ (∀ b ∈ bs, H b.1 = some (.lst b.2)) ∧ (catV (bs.map (·.2))).length ≤ sizeLine ∧
  (catV (bs.map (·.2)) = [] → Q (.ref p) H) ∧ ∀ t, H t = none → Q (.ref t) (upd H t (.lst (catV (bs.map (·.2)))))
theorem catV_le : ∀ (bs : List (List V)) (i : Nat), (catV (bs.take i)).length ≤ (catV bs).length
  | [], i => by simp [catV]
  | b :: bs, 0 => by simp [catV]
  | b :: bs, i + 1 => by
    have := catV_le bs i
    simp only [List.take_succ_cons, catV, List.length_append]
    omega
theorem catV_take_succ : ∀ (bs : List (List V)) (i : Nat) (b : List V), bs[i]? = some b → catV (bs.take (i + 1)) = catV (bs.take i) ++ b
  | [], i, b, h => by simp at h
  | x :: bs, 0, b, h => by simp at h; subst h; simp [catV]
  | x :: bs, i + 1, b, h => by
    have := catV_take_succ bs i b (by simpa using h)
    rw [List.take_succ_cons, List.take_succ_cons]
    simp only [catV, this, List.append_assoc]
/-- each list's values as they stand -/
theorem lists_read {pins : List (Addr × Obj)} {σ : L2.St} {H : Hp} {s : Shared} (I : Inv X pins σ H s) : ∀ (bs : List (Addr × List V)), (∀ b ∈ bs, H b.1 = some (.lst b.2)) →
    ∃ iss : List (Array Value), iss.length = bs.length ∧ ∀ (i : Nat) (b : Addr × List V), bs[i]? = some b → ∃ it n, iss[i]? = some it ∧ Vals b.2 it.toList ∧ PySem.IsL s.heap b.1 it n
  | [], _ => ⟨[], rfl, fun i b h => by simp at h⟩
  | b :: bs, hb => by
    obtain ⟨z, its, n, r, hl, e⟩ := I.lstM (hb b (by simp))
    obtain ⟨iss, l, f⟩ := lists_read I bs fun x m => hb x (by simp [m])
    refine ⟨its.toArray :: iss, by simp [l], fun i x h => ?_⟩
    cases i with
    | zero => simp at h; subst h; exact ⟨its.toArray, n, rfl, by simpa using r, e⟩
    | succ i => exact f i x (by simpa using h)
theorem cr_sumL (hc : X.calm = true) : CallR X (.builtin "sum") (rSumL X.K) := by
  intro pins s σ H xs us Q I r h
  obtain ⟨l, p, bs, rfl, hs, hp, hb, hz, q0, q1⟩ := h
  obtain ⟨u, w, rfl, ru, rw'⟩ := Vals.two r
  obtain rfl : u = Value.ref l := ru
  obtain rfl : w = Value.ref p := rw'
  obtain ⟨its, rv, hl, _⟩ := I.list hs
  obtain ⟨zp, ips, m0, rp, hlp, ep⟩ := I.lstM hp
  obtain rfl : ips = [] := by cases rp; rfl
  obtain ⟨iss, il, hi⟩ := lists_read I bs hb
  let vss : Nat → Array Value := fun i => iss.getD i #[]
  have lits : its.length = bs.length := by have := rv.length; simpa using this.symm
  have pre : ∀ i, i ≤ bs.length → Vals (catV ((bs.map (·.2)).take i)) (PySem.preL vss i).toList := fun i => by
    induction i with
    | zero => intro _; simp only [List.take_zero, catV, PySem.preL]; exact .nil
    | succ i ih =>
      intro hi'
      have hlt : i < bs.length := hi'
      obtain ⟨it, n, e1, e2, e3⟩ := hi i bs[i] (List.getElem?_eq_getElem hlt)
      rw [catV_take_succ (bs.map (·.2)) i bs[i].2 (by simp [List.getElem?_map, List.getElem?_eq_getElem hlt])]
      have : vss i = it := by show iss.getD i #[] = it; rw [List.getD_eq_getElem?_getD, e1]; rfl
      simp only [PySem.preL, this, Array.toList_append]
      exact Vals.append (ih (by omega)) e2
  have hsz : its.toArray.size = bs.length := by simpa using lits
  refine PySem.call_sum_lists (l := l) (p0 := p) (items := its.toArray) (m0 := m0) vss (I.ok.hd hc) hl.isList (by simpa using ep) (fun i v hv => ?_) (fun i hi' => ?_) fun h' tk t' m' hk ht ho => ?_
  · have hv' : its[i]? = some v := by simpa using hv
    have hlt : i < bs.length := by rw [← lits]; exact (List.getElem?_eq_some_iff.mp hv').1
    obtain ⟨it, n, e1, e2, e3⟩ := hi i bs[i] (List.getElem?_eq_getElem hlt)
    have : vss i = it := by show iss.getD i #[] = it; rw [List.getD_eq_getElem?_getD, e1]; rfl
    obtain ⟨u, g1, g2⟩ := rv.get (i := i) (x := V.ref bs[i].1) (by rw [List.getElem?_map, List.getElem?_eq_getElem hlt]; rfl)
    rw [hv'] at g1
    cases g1
    exact ⟨bs[i].1, n, g2, by rw [this]; exact e3⟩
  · have := (pre i (by omega)).length
    have q := catV_le (bs.map (·.2)) i
    rw [this] at q
    rw [← Array.length_toList]
    omega
  · have pv := pre bs.length (Nat.le_refl _)
    rw [List.take_of_length_le (by simp)] at pv
    rw [hsz] at ht
    by_cases hn : s.heap.objs.size ≤ t'
    · refine ⟨.ref t', upd H t' (.lst (catV (bs.map (·.2)))), I.laid (t' := tk) hk hn ⟨hz, (PySem.preL vss bs.length).toList, m', pv, by simpa using ht⟩, rfl, q1 t' (I.hok.fresh hn)⟩
    · have tp : t' = p := ho.resolve_right hn
      subst tp
      have := hk _ _ ep
      rw [ht] at this
      have e0 : PySem.preL vss bs.length = #[] := by
        injection this with this
        injection this with _ _ this _
        injection this
      rw [e0] at pv
      have c0 : catV (bs.map (·.2)) = [] := by
        generalize catV (bs.map (·.2)) = c at pv
        cases pv
        rfl
      exact ⟨.ref t', H, I.kept hk, rfl, q0 c0⟩
end
/-- the members of lists -/
noncomputable def memsD : List D → Option (List D)
  | [] => some []
  | .lst f ds :: r => if f = .loc then none else (memsD r).map (ds ++ ·)
  | _ :: _ => none
noncomputable def sumLK (d : D) : Out Exn D := match d with
  | .lst _ ds => ofO ((memsD ds).bind fun ms => if ms.length ≤ 100000 then some (.lst .new ms) else none)
  | _ => .no
noncomputable def qSumL (fa : FQ) : FQ := fun ρ => (fa ρ).bind sumLK
theorem mems_dts {K : PySem.W.Frag} {G B H : Hp} (gh : Sub G H) (bh : SmN B H) : ∀ {vs : List V} {ds ms : List D}, Dts K G B H vs ds → memsD ds = some ms → ∃ bs : List (Addr × List V), vs = bs.map (fun b => V.ref b.1) ∧ (∀ b ∈ bs, H b.1 = some (.lst b.2)) ∧ Dts K G B H (catV (bs.map (·.2))) ms
  | [], [], ms, _, e => by cases e; exact ⟨[], rfl, fun b m => by simp at m, Dts.nil⟩
  | [], _ :: _, _, h, _ => by have := h.length; simp at this
  | _ :: _, [], _, h, _ => by have := h.length; simp at this
  | v :: vs, d :: ds, ms, h, e => by
    obtain ⟨h1, h2, h3⟩ := h.uncons
    cases d with
    | lst f es =>
      simp only [memsD] at e
      by_cases hf : f = .loc
      · rw [if_pos hf] at e; cases e
      · rw [if_neg hf] at e
        cases e2 : memsD ds with
        | none => rw [e2] at e; cases e
        | some ms' =>
          rw [e2] at e
          cases e
          obtain ⟨bs, rfl, g2, g3⟩ := mems_dts gh bh h3 e2
          obtain ⟨p, ws, rfl, k1, k2⟩ := dt_lstX gh bh hf h2
          exact ⟨(p, ws) :: bs, rfl, fun b m => by
            rcases List.mem_cons.mp m with rfl | m
            · exact k1
            · exact g2 b m, Dts.append k2 g3⟩
    | _ => cases e
section
variable {X : Cx} {W : WX} {a : Expr} {fa : FQ} {p lp pos : Pos}
theorem qe_sumL (hc : X.calm = true) (ha : QE X W a fa) (hm : X.mg "sum" = none) (hb : bootBuiltins "sum" = some (.builtin "sum") := by rfl) (hg : Gl X "sum" := by rfl)
    (hs2 : starEach [.List [] lp] X.env = (false, eval (.List [] lp) X.env) :: starEach [] X.env := by rfl)
    (hs : starEach [a, .List [] lp] X.env = (false, eval a X.env) :: starEach [.List [] lp] X.env := by rfl) (hpl : (backTo pos (starEach [.List [] lp] X.env)).any (·.1) = false := by rfl) :
    QE X W (.Call (.Name "sum" p) [a, .List [] lp] [] pos) (qSumL fa) :=
  peI (pe_callB (cr_sumL hc) hg hm hb (pa_cons ha (pa_cons (pe_lst pa_nil) pa_nil hs2) hs) (by decide) (by decide) hs hpl) fun σ H R ⟨G, B, As, ρ, so, q⟩ => by
    refine upQ_bind so q fun d G1 H1 v ex hd _ k => ?_
    cases d with
    | lst f ds =>
      have bh : SmN B H1 := so.bh.trans ex.h
      obtain ⟨l, vs, rfl, hl, hs⟩ := dt_lst ex.gh bh hd
      obtain ⟨e, en, k⟩ := out_opt k
      obtain ⟨ms, e1, e2⟩ := Option.bind_eq_some_iff.mp en
      by_cases hz : ms.length ≤ 100000
      · rw [if_pos hz] at e2
        cases e2
        obtain ⟨bs, rfl, g2, g3⟩ := mems_dts ex.gh bh hs e1
        have k1 := KQ.ext ex k
        refine ⟨Nat.zero_le _, fun p hp => ?_⟩
        have e3 := Ext.lay (o := .lst []) ex.gh hp
        have up : ∀ b o, H1 b = some o → upd H1 p (.lst []) b = some o := fun b o e => by rw [upd_ne (ne_of_none e hp)]; exact e
        refine ⟨l, p, bs, rfl, SmN.seq (.of up) hl, upd_same, fun b m => up _ _ (g2 b m), ?_, fun hn => ?_, fun t ht => ?_⟩
        · have := g3.length
          rw [sizeLine_eq]
          omega
        · have : ms = [] := by have := g3.length; rw [hn] at this; simpa using this.symm
          subst this
          exact KQ.floorL ex.gh hp Dts.nil k1
        · exact KQ.floorL e3.gh ht (Dts.ext e3 g3) (KQ.ext e3 k1)
      · rw [if_neg hz] at e2; cases e2
    | _ => exact k.elim
end
/-! ### max(xs, default=n) -/
section
variable {X : Cx}
noncomputable def rMaxDf (K : PySem.W.Frag) : List V → List V → Hp → VK → Prop := fun xs zs H Q => ∃ (a : Addr) (ns : List Int) (n : Int), xs = [V.ref a] ∧ zs = [V.int n] ∧ SqL K H a (ns.map V.int) ∧ (ns = [] → Q (.int n) H) ∧ ∀ m, m ∈ ns → (∀ y ∈ ns, y ≤ m) → Q (.int m) H
theorem hold_ints {h : Heap} : ∀ {its : List Value} {ns : List Int}, IntsAre its ns → PySem.W.HoldAll h its ns
  | _, _, .nil => PySem.W.HoldAll.nil
  | _, _, .cons n t r => PySem.W.HoldAll.cons ⟨_, .int n t⟩ (hold_ints r)
theorem maxOf_is : ∀ (xs : List Int) (x : Int), PySem.W.maxOf x xs ∈ x :: xs ∧ ∀ y ∈ x :: xs, y ≤ PySem.W.maxOf x xs
  | [], x => ⟨by simp [PySem.W.maxOf], fun y m => by simp at m; subst m; simp [PySem.W.maxOf]⟩
  | z :: xs, x => by
    obtain ⟨h1, h2⟩ := maxOf_is xs (if PySem.W.DatumOrd.lt x z = true then z else x)
    have e : PySem.W.maxOf x (z :: xs) = PySem.W.maxOf (if PySem.W.DatumOrd.lt x z = true then z else x) xs := rfl
    have hlt : PySem.W.DatumOrd.lt x z = decide (x < z) := rfl
    rw [e]
    rw [hlt] at h1 h2 ⊢
    by_cases c : x < z
    · simp only [c, decide_true, if_true] at h1 h2 ⊢
      refine ⟨by rcases List.mem_cons.mp h1 with h | h <;> simp [h], fun y m => ?_⟩
      rcases List.mem_cons.mp m with rfl | m
      · exact Int.le_trans (Int.le_of_lt c) (h2 z (by simp))
      · exact h2 y m
    · simp only [c, decide_false, Bool.false_eq_true, if_false] at h1 h2 ⊢
      refine ⟨by rcases List.mem_cons.mp h1 with h | h <;> simp [h], fun y m => ?_⟩
      rcases List.mem_cons.mp m with rfl | m
      · exact h2 _ (by simp)
      · rcases List.mem_cons.mp m with rfl | m
        · exact Int.le_trans (Int.not_lt.mp c) (h2 _ (by simp))
        · exact h2 y (by simp [m])
theorem cr_maxDf (hc : X.calm = true) (hu : X.A.units + 65 < cLine) : CallRK X (.builtin "max") ["default"] (rMaxDf X.K) := by
  intro pins s σ H xs zs us ws Q I r rk h
  obtain ⟨a, ns, n, rfl, rfl, hs, q0, q1⟩ := h
  obtain rfl := Vals.ref1 r
  obtain ⟨w, rfl, t, rfl⟩ := Vals.one rk
  obtain ⟨its, rv, hl, _⟩ := I.list hs
  refine PySem.W.max_list_datum_default (vs := its.toArray) (xs := ns) (I.ok.hd hc) hl.isList (by simpa using hold_ints rv.ints) (by show X.A.units + 1 + 0 < cLine; omega) (fun e h' tk hk => ⟨.int n, H, I.kept hk, ⟨_, rfl⟩, q0 e⟩) fun y ys i v h' tk e hi hd hk => ?_
  obtain ⟨as, hr⟩ := hd
  obtain ⟨t', rfl⟩ : ∃ t', v = Value.int (PySem.W.maxOf y ys) t' := by cases hr; exact ⟨_, rfl⟩
  obtain ⟨m1, m2⟩ := maxOf_is ys y
  subst e
  exact ⟨.int _, H, I.kept hk, ⟨_, rfl⟩, q1 _ m1 m2⟩
end
noncomputable def maxDK (d e : D) : Out Exn D := match d, e with
  | .lst _ ds, .int n => ofO ((intsD ds).map fun bs => .int (if bs = [] then n else maxI bs))
  | _, _ => .no
noncomputable def qMaxD (fa fd : FQ) : FQ := fun ρ => (fa ρ).bind fun d => (fd ρ).bind fun e => maxDK d e
section
variable {X : Cx} {W : WX} {a b : Expr} {fa fb : FQ} {p kpos pos : Pos}
theorem qe_maxD (hc : X.calm = true) (hu : X.A.units + 65 < cLine) (ha : QE X W a fa) (hd : QE X W b fb) (hm : X.mg "max" = none) (hb : bootBuiltins "max" = some (.builtin "max") := by rfl) (hg : Gl X "max" := by rfl)
    (hs : starEach [a] X.env = (false, eval a X.env) :: starEach [] X.env := by rfl)
    (he : backTo pos (starEach [a] X.env) = (false, eval a X.env) :: backTo pos (starEach [] X.env) := by rfl) (hpl : (backTo pos (starEach [a] X.env)).any (·.1) = false := by rfl)
    (hall : (backToKw pos (keywordEach [⟨some "default", b, kpos⟩] X.env)).all (·.1.isSome) = true := by rfl) (hnone : (backToKw pos (keywordEach [⟨some "default", b, kpos⟩] X.env)).any (·.1.isNone) = false := by rfl) (hks : (backToKw pos (keywordEach [⟨some "default", b, kpos⟩] X.env)).filterMap (·.1) = [Str.ofString "default"] := by rfl) :
    QE X W (.Call (.Name "max" p) [a] [⟨some "default", b, kpos⟩] pos) (qMaxD fa fb) :=
  peI (pe_callBK (cr_maxDf hc hu) hg hm hb (pa_cons ha pa_nil hs) (pk_cons hd pk_nil) (by decide) (by decide) he hpl hall hnone hks) fun σ H R ⟨G, B, As, ρ, so, q⟩ => by
    refine upQ_bind so q fun d G1 H1 v ex hd _ q1 => upQ_bind (so.ext ex) (Out.P_mono q1 (fun _ k => KQ.ext ex k) fun _ z => EX.ext ex z) fun d2 G2 H2 v2 e2 hd2 _ k => ?_
    unfold maxDK at k
    split at k
    · have bh : SmN B H2 := (so.ext ex).bh.trans e2.h
      obtain ⟨l, vs, rfl, hl, hs⟩ := dt_lst e2.gh bh (Dt.ext e2 hd)
      obtain ⟨e, en, k⟩ := out_opt k
      obtain ⟨bs, eq1, rfl⟩ := Option.map_eq_some_iff.mp en
      have := ints_dts hs eq1
      subst this
      have k := KQ.ext e2 k
      refine ⟨l, bs, _, rfl, by rw [dt_int hd2], hl, fun h0 => ?_, fun m a1 a2 => ?_⟩
      · rw [if_pos h0] at k
        exact kq_int e2.gh k
      · have hne : bs ≠ [] := fun z => by rw [z] at a1; simp at a1
        rw [if_neg hne] at k
        obtain ⟨m1, m2⟩ := maxI_mem hne
        have : m = maxI bs := Int.le_antisymm (m2 m a1) (a2 _ m1)
        rw [this]; exact kq_int e2.gh k
    · exact k.elim
end
/-! ### reckoning -/
theorem qSumL_ap {fa : FQ} {ρ : Plc} : qSumL fa ρ = (fa ρ).bind sumLK := rfl
theorem qMaxD_ap {fa fd : FQ} {ρ : Plc} : qMaxD fa fd ρ = (fa ρ).bind fun d => (fd ρ).bind fun e => maxDK d e := rfl
theorem maxDK_i {f : Fl} {ns : List Int} {n : Int} : maxDK (.lst f (ns.map D.int)) (.int n) = .ok (.int (if ns = [] then n else maxI ns)) := by
  simp only [maxDK, intsD_map, Option.map_some, ofO_some]
theorem memsD_map {α : Type} {f : Fl} (hf : f ≠ .loc) {g : α → List D} : ∀ xs : List α, memsD (xs.map fun x => .lst f (g x)) = some (xs.map g).flatten
  | [] => rfl
  | x :: xs => by
    rw [List.map_cons]
    simp only [memsD, if_neg hf, memsD_map hf xs, Option.map_some, List.map_cons, List.flatten_cons]
theorem sumLK_map {α : Type} {f' f : Fl} (hf : f ≠ .loc) {g : α → List D} {xs : List α} (h : (xs.map g).flatten.length ≤ 100000) : sumLK (.lst f' (xs.map fun x => .lst f (g x))) = .ok (.lst .new (xs.map g).flatten) := by
  simp only [sumLK, memsD_map hf, Option.bind_some, if_pos h, ofO_some]
/-! ### a method of a quiet receiver, its answer owned -/
noncomputable def hdQ (C : Addr) (m : Str) : Out Exn D → Bool
  | .ok d => isObj C m d
  | .ex _ => true
  | .no => false
noncomputable def fmQqK (C : Addr) (m : Str) (f : FQ) (as : List Ag) (ρ : Plc) : Option (List (Option (Lc × D)) × Plc) → Out (Exn × Plc) (List D × List (Option Lc) × Plc)
  | some x => fmQ2 (.q f :: as) ρ x (hdQ C m (exP (f x.2.view)))
  | none => .no
theorem fmQq_ap {C : Addr} {m : Str} {f : FQ} {as : List Ag} {ρ : Plc} : fmQ C m (.q f :: as) ρ = fmQqK C m f as ρ (takeH ((Ag.q f :: as).map Ag.sl) ρ) := by
  unfold fmQ fmQqK
  rw [faQ_ap]
  cases takeH ((Ag.q f :: as).map Ag.sl) ρ with
  | none => rfl
  | some x =>
    obtain ⟨hs, ρ0⟩ := x
    show (if hdOk C m (.q f) ρ ρ0.view = true then faQK (.q f :: as) ρ (some (hs, ρ0)) else Out.no) = _
    unfold fmQ2
    have e : hdOk C m (.q f) ρ ρ0.view = hdQ C m (exP (f ρ0.view)) := by
      show (match exP (f ρ0.view) with | .ok d => isObj C m d | .ex _ => true | .no => false) = _
      cases exP (f ρ0.view) <;> rfl
    rw [e]
theorem fmQqK_some {C : Addr} {m : Str} {f : FQ} {as : List Ag} {ρ : Plc} {hs : List (Option (Lc × D))} {ρ0 : Plc} : fmQqK C m f as ρ (some (hs, ρ0)) = fmQ2 (.q f :: as) ρ (hs, ρ0) (hdQ C m (exP (f ρ0.view))) := rfl
theorem hdQ_ok {C : Addr} {m : Str} {d : D} : hdQ C m (.ok d) = isObj C m d := rfl
end VL

/-! VOa: a lambda of one parameter, handed to sorted as its key. -/
namespace VL
open PySem PySem.Spec PySem.Calls PyProof.Rows L2
/-- what the making of a lambda asks of the maker's code object at c and its table at P -/
noncomputable abbrev TabB := LamX.TabB
section
variable {X : Cx} {pins : List (Addr × Obj)} {σ : L2.St} {H : Hp} {s : Shared}
/-- one parameter, captured names and globals -/
structure Lam1 (sc scope : Scope) (p : Str) : Prop where
  kind : scope.kind = .function
  co : scope.isCoroutine = false
  gen : scope.isGenerator = false
  cel : ∀ y ∈ scope.names, y.2 ≠ .cell
  loc : ∀ y ∈ scope.names, y.2 = .local → y.1 = p
  par : scope.names.lookup p = some .local
  free : ∀ y ∈ scope.names, y.2 = .free → sc.names.lookup y.1 = some .cell ∨ sc.names.lookup y.1 = some .free
end
end VL

/-! VOb: sorted by a key that is such a lambda: the machine's part. -/
namespace VL
open PySem PySem.Spec PySem.Calls PyProof.Rows L2
variable [LamT]
section
variable {X : Cx} {pins : List (Addr × Obj)} {σ : L2.St} {s : Shared} {G0 B H0 : Hp} {f a kS : Addr} {fob : Obj} {e1 : Nat} {kts : List D}
end
end VL

/-! VOc: sorted by a key that is such a lambda: the call. -/
namespace VL
open PySem PySem.Spec PySem.Calls PyProof.Rows L2
variable [LamT]
section
variable {X : Cx} {pins : List (Addr × Obj)} {σ : L2.St} {s : Shared}
end
end VL

/-! VOd: sorted(xs, key=lambda p: ..): the reading. -/
namespace VL
open PySem PySem.Spec PySem.Calls PyProof.Rows L2
variable [LamT]
section
variable {X : Cx} {W : WX}
end
end VL

/-! VOe: defs that make lambdas. -/
namespace VL
open PySem PySem.Spec PyProof.Rows L2
variable [LamT]
/-- the def's code object has a table that is told -/
structure LamAt (mg : Str → Option Value) (base : Heap) (cd : Value) (q : Str) : Prop where
  ex : ∃ c P, cd = .ref c ∧ TabB base mg c P ∧ (P, q) ∈ LamT.T ∧ ∀ p ∈ LamT.T, p.1 = P → p.2 = q
section
variable {P : Program} {w : World} {K : PySem.W.Frag} {mg : Str → Option Value} {base : Heap}
end
end VL

/-! VOf: a loop over a list that the def may change, whose elements are changed through the loop's name. -/
namespace VL
open PySem PySem.Spec PyProof.Rows L2
variable [LamT]

noncomputable def noArg (n : Nat) : List Sl → Bool
  | [] => true
  | .arg j :: r => j != n && noArg n r
  | .val _ :: r => noArg n r
  | .no :: r => noArg n r
theorem noArg_at {n : Nat} : ∀ {s : List Sl}, noArg n s = true → ∀ i : Nat, s[i]? ≠ some (Sl.arg n)
  | [], _, i, e => by simp at e
  | .arg j :: r, h, 0, e => by
    simp [noArg] at h
    exact h.1 (by simpa using e)
  | .arg j :: r, h, i + 1, e => by
    simp [noArg] at h
    exact noArg_at h.2 i (by simpa using e)
  | .val _ :: r, h, 0, e => by simp at e
  | .val _ :: r, h, i + 1, e => noArg_at (s := r) h i (by simpa using e)
  | .no :: r, h, 0, e => by simp at e
  | .no :: r, h, i + 1, e => noArg_at (s := r) h i (by simpa using e)
noncomputable def backA (n x : Nat) (ρ : Plc) : Option (D × Plc) := match ρ.a[n]? with
  | some (some d) => if noArg n (ρ.s.set x .no) = true then some (d, ⟨ρ.s.set x .no, ρ.a.dropLast⟩) else none
  | _ => none
noncomputable def rndA (go : D → Plc → OS) (fin : D → Plc → Plc) (n x : Nat) : OS → OS
  | .nx ρ => match backA n x ρ with | some r => go r.1 r.2 | none => .no
  | .ct ρ => match backA n x ρ with | some r => go r.1 r.2 | none => .no
  | .bk ρ => match backA n x ρ with | some r => .nx (fin r.1 r.2) | none => .no
  | .rt v ρ => match backA n x ρ with | some r => .rt v (fin r.1 r.2) | none => .no
  | .ex e ρ => match backA n x ρ with | some r => .ex e (fin r.1 r.2) | none => .no
  | .no => .no
noncomputable def forA (j x : Nat) (b : FS) : List D → List D → FS
  | dn, [], ρ => .nx (ρ.setA j (some (.lst .own dn)))
  | dn, d :: td, ρ => rndA (fun d' ρ' => forA j x b (dn ++ [d']) td ρ') (fun d' ρ' => ρ'.setA j (some (.lst .own (dn ++ d' :: td)))) ρ.a.length x (b ⟨ρ.s.set x (.arg ρ.a.length), ρ.a ++ [some d]⟩)
noncomputable def sForA (i x : Nat) (b : FS) : FS := fun ρ => match ρ.s[i]? with
  | some (.arg j) => match ρ.a[j]? with
    | some (some (.lst .own ds)) => forA j x b [] ds (ρ.setA j none)
    | _ => .no
  | _ => .no
section
variable {K : PySem.W.Frag} {G B Φ H : Hp} {As : List V} {S : Pi → List Addr} {σ : L2.St} {ρ : Plc}
theorem VRep.push {x n : Nat} {w : V} {e : D} {T : List Addr} (r0 : VRep K G B Φ H As S σ ρ) (hn : As.length = n) (hd : Dat K G B H T w e) (o : e.old) (t0 : TOk T S G Φ H) : VRep K G B Φ H (As ++ [w]) (VL.setS (VL.setS S (.inl x) []) (.inr n) T) (σ.set x (some w)) ⟨ρ.s.set x (.arg n), ρ.a ++ [some e]⟩ := by
  have r := r0.drop (i := x) (x := some w)
  have t : TOk T (VL.setS S (.inl x) []) G Φ H := ⟨t0.1, fun a m => ⟨fun i q => by
    by_cases h : i = .inl x
    · subst h; rw [setS_same] at q; cases q
    · rw [setS_ne h] at q; exact (t0.2 a m).1 i q, (t0.2 a m).2⟩⟩
  have hl : ρ.a.length = n := r0.alen.trans hn
  have old : ∀ j, j ≠ x → (ρ.s.set x (.arg n))[j]? = (ρ.setS x .no).s[j]? := fun j h => by
    simp only [Plc.setS, List.getElem?_set]
    rw [if_neg (Ne.symm h), if_neg (Ne.symm h)]
  have ats : ∀ y, (ρ.s.set x (.arg n))[x]? = some y → y = .arg n ∧ x < ρ.s.length := fun y q => by
    rw [List.getElem?_set, if_pos rfl] at q
    split at q
    · cases q; exact ⟨rfl, ‹_›⟩
    · cases q
  have s2 : VL.setS (VL.setS S (.inl x) []) (.inr n) T (.inr n) = T := setS_same
  generalize hS : VL.setS S (.inl x) [] = S1 at r t s2 ⊢
  refine ⟨r.gh, r.bp, r.ph, r.dis, by simpa [Plc.setS] using r.len, by simp [r0.alen], fun i d q => ?_, fun i j q => ?_, fun j d q => ?_, fun i => ?_, fun i j a hne hi hj => ?_, fun i a m => ?_⟩
  · by_cases h : i = x
    · subst h; cases (ats _ q).1
    · rw [old i h] at q
      obtain ⟨n1, v, h1, h2⟩ := r.slot i d q
      exact ⟨n1, v, h1, by rw [setS_ne (by simp)]; exact h2⟩
  · by_cases h : i = x
    · subst h
      obtain ⟨e1, h2⟩ := ats _ q
      cases e1
      exact ⟨w, by rw [List.getElem?_set, if_pos rfl, if_pos (by rw [← r0.len]; exact h2)], by simp [← hn]⟩
    · rw [old i h] at q
      obtain ⟨v, h1, h2⟩ := r.arg i j q
      exact ⟨v, h1, by rw [List.getElem?_append_left (List.getElem?_eq_some_iff.mp h2).1]; exact h2⟩
  · by_cases h : j < ρ.a.length
    · rw [List.getElem?_append_left h] at q
      obtain ⟨n1, v, h1, h2⟩ := r.ar j d q
      refine ⟨n1, v, by rw [List.getElem?_append_left (List.getElem?_eq_some_iff.mp h1).1]; exact h1, ?_⟩
      rw [setS_ne (by simp; omega)]; exact h2
    · rw [List.getElem?_append_right (by omega)] at q
      have hj : j = n := by
        rcases Nat.lt_or_ge (j - ρ.a.length) 1 with h1 | h1
        · omega
        · rw [List.getElem?_eq_none (by simpa using h1)] at q; cases q
      subst hj
      rw [show j - ρ.a.length = 0 by omega] at q
      cases q
      exact ⟨o, w, by simp [← hn], by rw [s2]; exact hd⟩
  · by_cases h : i = .inr n
    · subst h; rw [setS_same]; exact t.1
    · rw [setS_ne h]; exact r.nd i
  · by_cases h1 : i = .inr n
    · subst h1
      rw [setS_same] at hi
      rw [setS_ne (Ne.symm hne)] at hj
      exact (t.2 a hi).1 j hj
    · rw [setS_ne h1] at hi
      by_cases h2 : j = .inr n
      · subst h2
        rw [setS_same] at hj
        exact (t.2 a hj).1 i hi
      · rw [setS_ne h2] at hj
        exact r.dj i j a hne hi hj
  · by_cases h : i = .inr n
    · subst h; rw [setS_same] at m; exact (t.2 a m).2
    · rw [setS_ne h] at m; exact r.fr i a m
theorem VRep.pop {x n : Nat} {w : V} {d : D} {ρ' : Plc} (r0 : VRep K G B Φ H (As ++ [w]) S σ ρ) (hn : As.length = n) (hb : backA n x ρ = some (d, ρ')) : ∃ S', VRep K G B Φ H As S' σ ρ' ∧ Dat K G B H (S (.inr n)) w d ∧ d.old ∧ TOk (S (.inr n)) S' G Φ H ∧ ∀ T, TOk T S G Φ H → TOk (T ++ S (.inr n)) S' G Φ H := by
  unfold backA at hb
  split at hb
  · rename_i d0 hd0
    split at hb
    · rename_i hna
      cases hb
      have hx : ∃ y, σ.set x y = σ := by
        cases e : σ[x]? with
        | none => exact ⟨none, List.set_eq_of_length_le (by simpa using e)⟩
        | some y => exact ⟨y, set_self e⟩
      obtain ⟨y, hy⟩ := hx
      have r := (r0.drop (i := x) (x := y)).dropA (j := n)
      rw [hy] at r
      obtain ⟨o, w', h1, h2⟩ := r0.ar n d hd0
      have hw : w' = w := by
        rw [List.getElem?_append_right (by omega), hn, Nat.sub_self] at h1
        simpa using h1.symm
      subst hw
      have hl : ρ.a.length = n + 1 := by rw [r0.alen]; simp [hn]
      have ns := noArg_at hna
      generalize hS : VL.setS (VL.setS S (.inl x) []) (.inr n) [] = S' at r
      have hin : ∀ i a, a ∈ S' i → a ∈ S i ∧ i ≠ .inr n ∧ i ≠ .inl x := fun i a m => by
        rw [← hS] at m
        by_cases h : i = .inr n
        · subst h; rw [setS_same] at m; cases m
        · rw [setS_ne h] at m
          by_cases h2 : i = .inl x
          · subst h2; rw [setS_same] at m; cases m
          · rw [setS_ne h2] at m; exact ⟨m, h, h2⟩
      refine ⟨S', ⟨r.gh, r.bp, r.ph, r.dis, r.len, by simp [hl, hn], r.slot, fun i j q => ?_, fun j e q => ?_, r.nd, r.dj, r.fr⟩, h2, o, ⟨r0.nd _, fun a m => ⟨fun i q => r0.dj _ i a (Ne.symm (hin i a q).2.1) m (hin i a q).1, r0.fr _ a m⟩⟩, fun T t => ⟨List.nodup_append.mpr ⟨t.1, r0.nd _, fun a h1 b h2 e => (t.2 a h1).1 _ (e ▸ h2)⟩, fun a m => ?_⟩⟩
      · obtain ⟨v, h3, h4⟩ := r.arg i j q
        have hj : j ≠ n := fun e => ns i (by rw [← e]; exact q)
        refine ⟨v, h3, ?_⟩
        have hlt := (List.getElem?_eq_some_iff.mp h4).1
        simp at hlt
        rwa [List.getElem?_append_left (by omega)] at h4
      · have hj : j < n := by
          have := (List.getElem?_eq_some_iff.mp q).1
          simp [hl] at this
          exact this
        have q2 : (((ρ.setS x .no).setA n none).a)[j]? = some (some e) := by
          simp only [Plc.setS, Plc.setA, List.getElem?_set]
          rw [if_neg (by omega)]
          rw [List.dropLast_eq_take, List.getElem?_take] at q
          split at q
          · exact q
          · cases q
        obtain ⟨n1, v, h3, h4⟩ := r.ar j e q2
        exact ⟨n1, v, by rwa [List.getElem?_append_left (by omega)] at h3, h4⟩
      · rcases List.mem_append.mp m with m | m
        · exact ⟨fun i q => (t.2 a m).1 i (hin i a q).1, (t.2 a m).2⟩
        · exact ⟨fun i q => r0.dj _ i a (Ne.symm (hin i a q).2.1) m (hin i a q).1, r0.fr _ a m⟩
    · cases hb
  · cases hb
/-- the element goes back among the others -/
theorem backL {G' G4 H' H4 : Hp} {S5 : Pi → List Addr} {a : Addr} {U2 T : List Addr} {vs : List V} {dn td : List D} {e d' : D} {w : V}
    (k : ∀ (G1 B1 H1 : Hp) (T : List Addr) (e' : D), Same G' G1 → Same B B1 → On U2 H' H1 → Dat K G1 B1 H1 T w e' → e'.old → ∃ S', S'.Perm (T ++ U2) ∧ Dats K G1 B1 H1 S' vs ((dn ++ e :: td).set dn.length e'))
    (s4 : Same G' G4) (on : On (a :: U2) H' H4) (hd : Dat K G4 B H4 T w d') (o : d'.old) (tU : TOk (a :: U2) S5 G4 Φ H4) (tT : TOk T S5 G4 Φ H4) (dj : ∀ b ∈ T, b ∉ a :: U2) (ha : H' a = some (.lst vs)) :
    ∃ U', H4 a = some (.lst vs) ∧ Dats K G4 B H4 U' vs (dn ++ d' :: td) ∧ TOk (a :: U') S5 G4 Φ H4 ∧ ∀ b, b ∈ U' → b ∈ T ∨ b ∈ U2 := by
  obtain ⟨U', p, h⟩ := k G4 B H4 T d' s4 (fun _ _ q => q) (fun b m => on b (List.mem_cons_of_mem _ m)) hd o
  have hset : (dn ++ e :: td).set dn.length d' = dn ++ d' :: td := by simp
  rw [hset] at h
  have mem : ∀ b, b ∈ U' → b ∈ T ∨ b ∈ U2 := fun b m => List.mem_append.mp (p.mem_iff.mp m)
  refine ⟨U', on a (by simp) _ ha trivial, h, ⟨?_, fun b m => ?_⟩, mem⟩
  · have h1 := List.nodup_cons.mp tU.1
    refine List.nodup_cons.mpr ⟨fun m => ?_, p.nodup_iff.mpr (List.nodup_append.mpr ⟨tT.1, h1.2, fun x hx y hy e => dj x hx (by subst e; simp [hy])⟩)⟩
    rcases mem _ m with q | q
    · exact dj _ q (by simp)
    · exact h1.1 q
  · rcases List.mem_cons.mp m with q | q
    · subst q; exact tU.2 _ (by simp)
    · rcases mem _ q with q | q
      · exact tT.2 _ q
      · exact tU.2 _ (by simp [q])
/-- the whole goes back to its place -/
theorem VRep.putF {j : Nat} {a : Addr} {U' : List Addr} {vs : List V} {ds : List D} (r : VRep K G B Φ H As S σ ρ) (hj : As[j]? = some (.ref a)) (ha : H a = some (.lst vs)) (hd : Dats K G B H U' vs ds) (t : TOk (a :: U') S G Φ H) :
    VRep K G B Φ H As (VL.setS S (.inr j) (a :: U')) σ (ρ.setA j (some (.lst .own ds))) :=
  r.setA hj (.lst (f := .own) ha hd) (by simp [D.root]) t
end
section
variable {X : Cx} {W : WX}
/-- all that a round's outcome wants, in the body's eyes -/
theorem rndA_end {K : PySem.W.Frag} {G G' B Φ H' : Hp} {As : List V} {S' : Pi → List Addr} {x n j : Nat} {a : Addr} {U2 : List Addr} {vs : List V} {dn td : List D} {e : D} {w : V} {E E2 : Ends} {go : D → Plc → OS} {o : OS} (bp : Same B Φ)
    (hn : As.length = n) (hj : As[j]? = some (.ref a)) (sG : Same G G') (t2 : TOk (a :: U2) S' G' Φ H') (ha : H' a = some (.lst vs))
    (k : ∀ (G1 B1 H1 : Hp) (T : List Addr) (e' : D), Same G' G1 → Same B B1 → On U2 H' H1 → Dat K G1 B1 H1 T w e' → e'.old → ∃ S', S'.Perm (T ++ U2) ∧ Dats K G1 B1 H1 S' vs ((dn ++ e :: td).set dn.length e'))
    (q : (rndA go (fun d' ρ' => ρ'.setA j (some (.lst .own (dn ++ d' :: td)))) n x o).End K W G B Φ As E)
    (hrt : ∀ v H, E.rt v H → E2.rt v H) (hbk : ∀ σ H, E.nx σ H → E2.bk σ H)
    (hgo : ∀ d' ρ4, (go d' ρ4).End K W G B Φ As E → ∀ G4 H4 S4 σ4 U', Same G' G4 → VRep K G4 B Φ H4 As S4 σ4 ρ4 → H4 a = some (.lst vs) → Dats K G4 B H4 U' vs (dn ++ d' :: td) → TOk (a :: U') S4 G4 Φ H4 → E2.nx σ4 H4 ∧ E2.ct σ4 H4) :
    o.End K W G' B (hold Φ (a :: U2) H') (As ++ [w]) E2 := by
  have hU : ∀ b ∈ a :: U2, Φ b = none := fun b m => (t2.2 b m).2.2.1
  have key : ∀ {G4 H4 : Hp} {S4 : Pi → List Addr} {σ4 : L2.St} {ρ3 ρ4 : Plc} {d' : D}, Same G' G4 → VRep K G4 B (hold Φ (a :: U2) H') H4 (As ++ [w]) S4 σ4 ρ3 → backA n x ρ3 = some (d', ρ4) →
      ∃ S5 U', VRep K G4 B Φ H4 As S5 σ4 ρ4 ∧ H4 a = some (.lst vs) ∧ Dats K G4 B H4 U' vs (dn ++ d' :: td) ∧ TOk (a :: U') S5 G4 Φ H4 ∧ ∀ T, TOk T S4 G4 (hold Φ (a :: U2) H') H4 → TOk T (VL.setS S5 (.inr j) (a :: U')) G4 Φ H4 := by
    intro G4 H4 S4 σ4 ρ3 ρ4 d' s4 r4 hb
    obtain ⟨S5, r5, hd, od, tT, tA⟩ := r4.pop hn hb
    have tS5 : TOk (a :: U2) S5 G4 Φ H4 ∧ On (a :: U2) H' H4 := by
      have h5 := hold_tok (S2 := S5) t2 r5
      exact ⟨h5.2, h5.1⟩
    have dj : ∀ b ∈ S4 (.inr n), b ∉ a :: U2 := fun b m z => by
      have := (tT.2 b m).2.2.1
      rw [hold_at z] at this
      obtain ⟨_, _, _, o, h, _⟩ := t2.2 b z
      rw [h] at this; cases this
    obtain ⟨U', h1, h2, h3, h4⟩ := backL k s4 tS5.2 hd od tS5.1 (tT.unhold hU) dj ha
    refine ⟨S5, U', r5.unhold bp hU, h1, h2, h3, fun T tt => ?_⟩
    have ta := tA T tt
    refine ⟨tt.1, fun b m => ?_⟩
    have tb := ta.2 b (List.mem_append_left _ m)
    have hne : b ∉ a :: U2 := fun z => by
      have := tb.2.2.1
      rw [hold_at z] at this
      obtain ⟨_, _, _, o, h, _⟩ := t2.2 b z
      rw [h] at this; cases this
    refine ⟨fun i z => ?_, tb.2.1, ?_, tb.2.2.2⟩
    · by_cases hi : i = .inr j
      · subst hi
        rw [setS_same] at z
        rcases List.mem_cons.mp z with z | z
        · exact hne (by simp [z])
        · rcases h4 b z with z | z
          · exact (List.nodup_append.mp ta.1).2.2 b m b z rfl
          · exact hne (by simp [z])
      · rw [setS_ne hi] at z
        exact tb.1 i z
    · have := tb.2.2.1
      rwa [hold_ne hne] at this
  cases o with
  | nx ρ3 =>
    intro G4 H4 S4 σ4 s4 r4
    simp only [rndA] at q
    split at q
    · rename_i r hb
      obtain ⟨S5, U', r5, h1, h2, h3, _⟩ := key (d' := r.1) (ρ4 := r.2) s4 r4 hb
      exact (hgo r.1 r.2 q G4 H4 S5 σ4 U' s4 r5 h1 h2 h3).1
    · exact q.elim
  | ct ρ3 =>
    intro G4 H4 S4 σ4 s4 r4
    simp only [rndA] at q
    split at q
    · rename_i r hb
      obtain ⟨S5, U', r5, h1, h2, h3, _⟩ := key (d' := r.1) (ρ4 := r.2) s4 r4 hb
      exact (hgo r.1 r.2 q G4 H4 S5 σ4 U' s4 r5 h1 h2 h3).2
    · exact q.elim
  | bk ρ3 =>
    intro G4 H4 S4 σ4 s4 r4
    simp only [rndA] at q
    split at q
    · rename_i r hb
      obtain ⟨S5, U', r5, h1, h2, h3, _⟩ := key (d' := r.1) (ρ4 := r.2) s4 r4 hb
      exact hbk _ _ (q G4 H4 _ σ4 (sG.trans s4) (r5.putF hj h1 h2 h3))
    · exact q.elim
  | rt d ρ3 =>
    intro G4 H4 S4 σ4 v T s4 r4 hd nd tt
    simp only [rndA] at q
    split at q
    · rename_i r hb
      obtain ⟨S5, U', r5, h1, h2, h3, h4⟩ := key (d' := r.1) (ρ4 := r.2) s4 r4 hb
      exact hrt _ _ (q G4 H4 _ σ4 v T (sG.trans s4) (r5.putF hj h1 h2 h3) hd nd (h4 T tt))
    · exact q.elim
  | ex y ρ3 =>
    intro G4 H4 S4 σ4 cls dx s4 r4 er
    simp only [rndA] at q
    split at q
    · rename_i r hb
      obtain ⟨S5, U', r5, h1, h2, h3, _⟩ := key (d' := r.1) (ρ4 := r.2) s4 r4 hb
      exact q G4 H4 _ σ4 cls dx (sG.trans s4) (r5.putF hj h1 h2 h3) er
    · exact q.elim
  | no => exact q.elim
theorem vs_forA {i x : Nat} {nm : Str} {p pos : Pos} {tgx : Expr} {body : List Stmt} {tb : FS} (hp : PassesOwn (model X.prog X.w) X.A X.env X.xe) (hc : X.calm = true) (hg : PG X tgx (Tg.rd X.K (.nm x))) (hb : VSs X W body tb)
    (hN : X.N[i]? = some nm := by rfl) (hv : Vis X.env.scope nm := by first | exact Or.inl rfl | exact Or.inr (Or.inl rfl) | exact Or.inr (Or.inr rfl)) (hd : (nm == ("__debug__" : Str)) = false := by decide) (hcd : (nm == ("__classdict__" : Str)) = false := by decide)
    (hs : ∀ y, foldedSetIterable (.Name nm p) X.env y = pure y := by intro _; rfl) : VS X W (.For tgx (.Name nm p) body [] pos) (sForA i x tb) := psI (ps_for hp hc (pi_list (pe_var hN hv hd hcd)) hg hb hs) fun E σ H ⟨G, B, Φ, As, S, ρ, rp, q⟩ => by
  unfold sForA at q
  split at q
  case h_2 => exact q.elim
  rename_i j hi
  split at q
  case h_2 => exact q.elim
  rename_i ds hj
  obtain ⟨v, h1, h2⟩ := rp.arg i j hi
  obtain ⟨od, v', h3, h4⟩ := rp.ar j _ hj
  rw [h2] at h3
  cases h3
  have r0 := rp.dropA (j := j)
  have t0 : TOk (S (.inr j)) (setS S (.inr j) []) G Φ H := ⟨rp.nd _, fun b m => ⟨fun l z => by
    by_cases hl : l = .inr j
    · subst hl; rw [setS_same] at z; cases z
    · rw [setS_ne hl] at z; exact rp.dj _ l b (Ne.symm hl) m z, rp.fr _ b m⟩⟩
  generalize hSj : S (.inr j) = Sj at h4 t0
  generalize setS S (.inr j) [] = S0 at r0 t0
  have hlen : As.length = (ρ.setA j none).a.length := r0.alen.symm
  cases h4 with
  | @lst U _ a vs _ nd hds =>
    refine ⟨.ref a, h1, a, rfl, ⟨vs, SqL.of nd⟩, fun k m σ' H' => m = ds.length - k ∧ k ≤ ds.length ∧ ∃ G' S' ρ' dn td U', dn.length = k ∧ dn.length + td.length = ds.length ∧ Same G G' ∧ VRep X.K G' B Φ H' As S' σ' ρ' ∧ H' a = some (.lst vs) ∧ Dats X.K G' B H' U' vs (dn ++ td) ∧ TOk (a :: U') S' G' Φ H' ∧ (forA j x tb dn td ρ').End X.K W G B Φ As E, ⟨ds.length, by simp, Nat.zero_le _, G, S0, ρ.setA j none, [], ds, U, rfl, by simp, fun _ _ e => e, r0, nd, hds, t0, q⟩, ?_⟩
    rintro k m σ' H' ⟨rfl, hle, G', S', ρ', dn, td, U', hk, hl, sG, r', ha, hd', t', q'⟩
    have hq : SqL X.K H' a vs := SqL.of ha
    have hvl : vs.length = ds.length := by rw [hd'.length]; simpa using hl
    cases td with
    | nil =>
      simp at hl
      simp only [forA] at q'
      refine .inl ⟨⟨vs, hq, by omega⟩, q' G' H' _ σ' sG (r'.putF h2 ha (by simpa using hd') t')⟩
    | cons e td =>
      simp only [List.length_cons] at hl
      simp only [forA] at q'
      obtain ⟨w, U1, U2, hw, hpm, hde, oe, kk⟩ := zipL hd' (show (dn ++ e :: td)[dn.length]? = some e by simp)
      rw [hk] at hw
      refine .inr ⟨⟨vs, w, hq, hw⟩, fun σ2 H2 => ∃ G2 S2 ρ2 dn2 td2 U2, dn2.length = k + 1 ∧ dn2.length + td2.length = ds.length ∧ Same G G2 ∧ VRep X.K G2 B Φ H2 As S2 σ2 ρ2 ∧ H2 a = some (.lst vs) ∧ Dats X.K G2 B H2 U2 vs (dn2 ++ td2) ∧ TOk (a :: U2) S2 G2 Φ H2 ∧ (forA j x tb dn2 td2 ρ2).End X.K W G B Φ As E, fun σ2 H2 z => ⟨ds.length - (k + 1), by omega, rfl, by omega, z⟩, fun y H'' ⟨e1, e2⟩ => ?_⟩
      subst e1
      have e3 := e2 vs hq
      rw [hw] at e3
      cases e3
      have nd0 := List.nodup_cons.mp t'.1
      have hnd : (U1 ++ U2).Nodup := hpm.nodup_iff.mp nd0.2
      have tU1 : TOk U1 S' G' Φ H'' := ⟨(List.nodup_append.mp hnd).1, fun b m => t'.2 b (List.mem_cons_of_mem _ (hpm.mem_iff.mpr (List.mem_append_left _ m)))⟩
      have t2 : TOk (a :: U2) S' G' Φ H'' := ⟨List.nodup_cons.mpr ⟨fun z => nd0.1 (hpm.mem_iff.mpr (List.mem_append_right _ z)), (List.nodup_append.mp hnd).2.1⟩, fun b m => by
        rcases List.mem_cons.mp m with z | z
        · exact t'.2 b (by simp [z])
        · exact t'.2 b (List.mem_cons_of_mem _ (hpm.mem_iff.mpr (List.mem_append_right _ z)))⟩
      have rh := r'.hold t2
      have tU1h : TOk U1 S' G' (hold Φ (a :: U2) H'') H'' := ⟨tU1.1, fun b m => by
        obtain ⟨z1, z2, z3, z4⟩ := tU1.2 b m
        refine ⟨z1, z2, ?_, z4⟩
        rw [hold_ne fun z => ?_]
        · exact z3
        · rcases List.mem_cons.mp z with z | z
          · exact nd0.1 (hpm.mem_iff.mpr (List.mem_append_left _ (z ▸ m)))
          · exact (List.nodup_append.mp hnd).2.2 b m b z rfl⟩
      have hn : As.length = ρ'.a.length := r'.alen.symm
      have rp' := rh.push (x := x) hn hde oe tU1h
      refine ⟨G', B, hold Φ (a :: U2) H'', As ++ [w], _, _, rp', ?_⟩
      refine rndA_end (E2 := _) r'.bp hn h2 sG t2 ha kk q' (fun _ _ h => h) (fun _ _ h => h) fun d' ρ4 hgo G4 H4 S4 σ4 U4 s4 r4 ha4 hd4 t4 => ?_
      have z : ∃ G2 S2 ρ2 dn2 td2 U2, dn2.length = k + 1 ∧ dn2.length + td2.length = ds.length ∧ Same G G2 ∧ VRep X.K G2 B Φ H4 As S2 σ4 ρ2 ∧ H4 a = some (.lst vs) ∧ Dats X.K G2 B H4 U2 vs (dn2 ++ td2) ∧ TOk (a :: U2) S2 G2 Φ H4 ∧ (forA j x tb dn2 td2 ρ2).End X.K W G B Φ As E :=
        ⟨G4, S4, ρ4, dn ++ [d'], td, U4, by simp [hk], by simp; omega, sG.trans s4, r4, ha4, by simpa using hd4, t4, hgo⟩
      exact ⟨z, z⟩
end
/-! ### reckoning -/
noncomputable def forAK (x : Nat) (b : FS) (s : List Sl) (A : List (Option D)) : Option Sl → OS
  | some (.arg j) => match A[j]? with
    | some (some (.lst .own ds)) => forA j x b [] ds ⟨s, A.set j none⟩
    | _ => .no
  | _ => .no
theorem sForA_ap {i x : Nat} {b : FS} {s : List Sl} {A : List (Option D)} : sForA i x b ⟨s, A⟩ = forAK x b s A s[i]? := rfl
noncomputable def forAK2 (j x : Nat) (b : FS) (s : List Sl) (A : List (Option D)) : Option (Option D) → OS
  | some (some (.lst .own ds)) => forA j x b [] ds ⟨s, A.set j none⟩
  | _ => .no
theorem forAK_arg {j x : Nat} {b : FS} {s : List Sl} {A : List (Option D)} : forAK x b s A (some (.arg j)) = forAK2 j x b s A A[j]? := rfl
theorem forAK2_own {j x : Nat} {b : FS} {s : List Sl} {A : List (Option D)} {ds : List D} : forAK2 j x b s A (some (some (.lst .own ds))) = forA j x b [] ds ⟨s, A.set j none⟩ := rfl
theorem forA_cons {j x : Nat} {b : FS} {dn td : List D} {d : D} {s : List Sl} {A : List (Option D)} : forA j x b dn (d :: td) ⟨s, A⟩ = rndA (fun d' ρ' => forA j x b (dn ++ [d']) td ρ') (fun d' ρ' => ρ'.setA j (some (.lst .own (dn ++ d' :: td)))) A.length x (b ⟨s.set x (.arg A.length), A ++ [some d]⟩) := rfl
end VL

namespace LW
open PySem PySem.Spec PyProof.Rows L2 VL
noncomputable def top (i : Nat) : Stmt := PySem.Challenge.pw_evenpieces_k02_turns_of_ties.main.body.getD i (.Pass ⟨0, 0, 0, 0⟩)
structure Adr where
  c_EvenError : Addr
  c_NoWeb : Addr
  c_Web : Addr
noncomputable abbrev k_LETTERS : D := .str "abcdefghijklmnopqrstuvwxyz"
noncomputable abbrev k_MOST_HANDS : D := .int 8
noncomputable abbrev k_MOST_STRENGTH : D := .int 1000
structure Txt (K : PySem.W.Frag) (mg : Str → Option Value) (A : Adr) : Prop where
  f_is_whole : TopFn K mg "is_whole" (top 6) ["thing"]
  f_is_within : TopFn K mg "is_within" (top 7) ["thing", "low", "high"]
  f_is_name : TopFn K mg "is_name" (top 8) ["thing"]
  f_is_hand_row : TopFn K mg "is_hand_row" (top 12) ["thing"]
  f_is_pair : TopFn K mg "is_pair" (top 13) ["thing"]
  f_sorted_pair : TopFn K mg "sorted_pair" (top 14) ["pair"]
  f_sure : TopFn K mg "sure" (top 15) ["good"]
  f_strengths_of : TopFn K mg "strengths_of" (top 16) ["hands"]
  f_pairs_of : TopFn K mg "pairs_of" (top 17) ["ties", "strengths"]
  f_Web___init__ : TopMt K A.c_Web "__init__" "Web.__init__" (inClass (top 18) 0) ["self", "hands", "ties"]
  f_Web_ties : TopMt K A.c_Web "ties" "Web.ties" (inClass (top 18) 6) ["self"]
  f_put_into_row : TopFn K mg "put_into_row" (top 19) ["rows", "pair"]
  f_Web_turns : TopMt K A.c_Web "turns" "Web.turns" (inClass (top 18) 8) ["self"]
  f__law_digit : TopFn K mg "_law_digit" (top 22) ["_law_state", "_law_base"]
  f__law_name : TopFn K mg "_law_name" (top 23) ["_law_state"]
  f__law_hands : TopFn K mg "_law_hands" (top 24) ["_law_state", "_law_most"]
  f__law_ties : TopFn K mg "_law_ties" (top 25) ["_law_state", "_law_hands_here"]
  f__law_first : TopFn K mg "_law_first" (top 26) ["_law_placed", "_law_tie"]
  f__law_due : TopFn K mg "_law_due" (top 27) ["_law_ties_here"]
  f_law : TopFn K mg "law" (top 28) ["_law_script"]
  b_all : mg "all" = none
  b_any : mg "any" = none
  b_bool : mg "bool" = none
  b_dict : mg "dict" = none
  b_int : mg "int" = none
  b_isinstance : mg "isinstance" = none
  b_len : mg "len" = none
  b_list : mg "list" = none
  b_max : mg "max" = none
  b_range : mg "range" = none
  b_set : mg "set" = none
  b_sorted : mg "sorted" = none
  b_str : mg "str" = none
  b_sum : mg "sum" = none
  b_tuple : mg "tuple" = none
  k_LETTERS : DConst K mg "LETTERS" k_LETTERS
  k_MOST_HANDS : DConst K mg "MOST_HANDS" k_MOST_HANDS
  k_MOST_STRENGTH : DConst K mg "MOST_STRENGTH" k_MOST_STRENGTH
  x_NoWeb : ExK K mg "NoWeb" A.c_NoWeb
  c_Web : Cls K A.c_Web
  n_Web_pairs : NoAttr K A.c_Web "pairs"
  n_Web_strong : NoAttr K A.c_Web "strong"
  mk_Web : PySem.W.makesIn K A.c_Web = true
  kp_Web : PySem.W.keepIn K (.ref A.c_Web) = true
  m_Web : mg "Web" = some (.ref A.c_Web)
section
variable {P : Program} {w : World} {K : PySem.W.Frag} {mg : Str → Option Value} {base : Heap} {A : Adr}
/- is_whole: 0=thing -/
noncomputable abbrev s_is_whole : Stmt := (top 6)
theorem sc_is_whole : FnScope ["thing"] ["thing"] (defScope s_is_whole) := ⟨rfl, rfl, rfl, by decide +kernel, rfl, by decide +kernel, by decide +kernel⟩
noncomputable def F_is_whole (K : PySem.W.Frag) (A : Adr) : Fn := fnF 1 [.r] (sRet (gQ (qAnd (qCB isiV (aCons (qV 0) (aCons (qC (.ty "int")) (aNil)))) (qNot (qCB isiV (aCons (qV 0) (aCons (qC (.ty "bool")) (aNil))))))))
theorem ok_is_whole (T : Txt K mg A) : VFn P w K mg base "is_whole" 1 [.r] (F_is_whole K A) := vfn (k := 0) T.f_is_whole sc_is_whole rfl fun f cdv AA outer s H E hr =>
  (vss_one (vs_ret (ge_q (qe_and (qe_callB call_isi v_isi T.b_isinstance (by decide +kernel) (qa_cons (qv 0) (qa_cons (qe_ty (n := "int") T.b_int) qa_nil))) (qe_one (qe_not (qe_callB call_isi v_isi T.b_isinstance (by decide +kernel) (qa_cons (qv 0) (qa_cons (qe_ty (n := "bool") T.b_bool) qa_nil)))))))))

/- is_within: 0=thing 1=low 2=high -/
noncomputable abbrev s_is_within : Stmt := (top 7)
theorem sc_is_within : FnScope ["thing", "low", "high"] ["thing", "low", "high"] (defScope s_is_within) := ⟨rfl, rfl, rfl, by decide +kernel, rfl, by decide +kernel, by decide +kernel⟩
noncomputable def F_is_within (K : PySem.W.Frag) (A : Adr) : Fn := fnF 3 [.r, .r, .r] (sRet (gQ (qAnd (qCall [.r] (F_is_whole K A) (aCons (qV 0) (aNil))) (qChain leV leV (qV 1) (qV 0) (qV 2)))))
theorem ok_is_within (T : Txt K mg A) : VFn P w K mg base "is_within" 2 [.r, .r, .r] (F_is_within K A) := vfn (k := 1) T.f_is_within sc_is_within rfl fun f cdv AA outer s H E hr =>
  (vss_one (vs_ret (ge_q (qe_and (qe_call (ok_is_whole T) (hr.mono (by decide)) (takes_of rfl rfl rfl rfl) (qa_cons (qv 0) qa_nil)) (qe_one (qe_chain op_le op_le v_le v_le (qv 1) (qv 0) (qv 2)))))))

/- is_name: 0=thing 1=sign -/
noncomputable abbrev s_is_name : Stmt := (top 8)
theorem sc_is_name : FnScope ["thing", "sign"] ["thing"] (defScope s_is_name) := ⟨rfl, rfl, rfl, by decide +kernel, rfl, by decide +kernel, by decide +kernel⟩
noncomputable def F_is_name (K : PySem.W.Frag) (A : Adr) : Fn := fnF 2 [.r] (sSeq (sIf (gQT (tOr (tNot (tV (qCB isiV (aCons (qV 0) (aCons (qC (.ty "str")) (aNil)))))) (tNot (tV (qChain leV leV (qC (.int 1)) (qCB lenV (aCons (qV 0) (aNil))) (qC (.int 8))))))) (sRet (gQ (qC (.bl false)))) (sNext)) (sRet (gQ (qCB allV (aCons (qLc (iSeq (qV 0)) (.nm 1) (tYes) (qOp inU (qV 1) (qC k_LETTERS)) [1]) (aNil))))))
theorem ok_is_name (T : Txt K mg A) : VFn P w K mg base "is_name" 1 [.r] (F_is_name K A) := vfn (k := 0) T.f_is_name sc_is_name rfl fun f cdv AA outer s H E hr =>
  (vss_cons (vs_if (gt_q (PW.pt (qw_or (qt_not (qt_val (qe_callB call_isi v_isi T.b_isinstance (by decide +kernel) (qa_cons (qv 0) (qa_cons (qe_ty (n := "str") T.b_str) qa_nil))))) (qw_or1 (qt_not (qt_chain op_le op_le v_le v_le qe_int (qe_callB call_lenU v_len T.b_len (by decide +kernel) (qa_cons (qv 0) qa_nil)) qe_int)))))) (vss_one (vs_ret (ge_q qe_bl))) vss_nil)
    (vss_one (vs_ret (ge_q (qe_callB (cr_all rfl) v_all T.b_all (by decide +kernel) (qa_cons (qe_lc (own := [("sign", 1)]) (tg := (.nm 1)) rfl sc_is_name.nd (qi_seq (qv 0)) (blkOk_by (own := [("sign", 1)]) (N := ["thing", "sign"]) (sc := defScope s_is_name) (by decide +kernel)) (by decide) (fun _ _ _ _ _ => (pg_name (i := 1) sc_is_name.nd rfl (Or.inl rfl))) (fun _ _ _ _ _ => qts_nil) (fun _ _ _ _ _ => (qe_cmp (op_inU (hu65 hr)) v_in (qv 1) (qe_const T.k_LETTERS)))) qa_nil))))))

/- is_hand_row: 0=thing -/
noncomputable abbrev s_is_hand_row : Stmt := (top 12)
theorem sc_is_hand_row : FnScope ["thing"] ["thing"] (defScope s_is_hand_row) := ⟨rfl, rfl, rfl, by decide +kernel, rfl, by decide +kernel, by decide +kernel⟩
noncomputable def F_is_hand_row (K : PySem.W.Frag) (A : Adr) : Fn := fnF 1 [.r] (sSeq (sIf (gQT (tOr (tNot (tV (qCB isiV (aCons (qV 0) (aCons (qC (.ty "tuple")) (aNil)))))) (tV (qOp neV (qCB lenV (aCons (qV 0) (aNil))) (qC (.int 2)))))) (sRet (gQ (qC (.bl false)))) (sNext)) (sRet (gQ (qAnd (qCall [.r] (F_is_name K A) (aCons (qOp ixV (qV 0) (qC (.int 0))) (aNil))) (qCall [.r, .r, .r] (F_is_within K A) (aCons (qOp ixV (qV 0) (qC (.int 1))) (aCons (qC (.int 1)) (aCons (qC k_MOST_STRENGTH) (aNil)))))))))
theorem ok_is_hand_row (T : Txt K mg A) : VFn P w K mg base "is_hand_row" 3 [.r] (F_is_hand_row K A) := vfn (k := 2) T.f_is_hand_row sc_is_hand_row rfl fun f cdv AA outer s H E hr =>
  (vss_cons (vs_if (gt_q (PW.pt (qw_or (qt_not (qt_val (qe_callB call_isi v_isi T.b_isinstance (by decide +kernel) (qa_cons (qv 0) (qa_cons (qe_ty (n := "tuple") T.b_tuple) qa_nil))))) (qw_or1 (qt_cmp (op_neU hr.units) v_ne (qe_callB call_lenU v_len T.b_len (by decide +kernel) (qa_cons (qv 0) qa_nil)) qe_int))))) (vss_one (vs_ret (ge_q qe_bl))) vss_nil)
    (vss_one (vs_ret (ge_q (qe_and (qe_call (ok_is_name T) (hr.mono (by decide)) (takes_of rfl rfl rfl rfl) (qa_cons (qe_ix (ix_U (hu1 hr)) v_ix (qv 0) qe_int) qa_nil)) (qe_one (qe_call (ok_is_within T) (hr.mono (by decide)) (takes_of rfl rfl rfl rfl) (qa_cons (qe_ix (ix_U (hu1 hr)) v_ix (qv 0) qe_int) (qa_cons qe_int (qa_cons (qe_const T.k_MOST_STRENGTH) qa_nil))))))))))

/- is_pair: 0=thing -/
noncomputable abbrev s_is_pair : Stmt := (top 13)
theorem sc_is_pair : FnScope ["thing"] ["thing"] (defScope s_is_pair) := ⟨rfl, rfl, rfl, by decide +kernel, rfl, by decide +kernel, by decide +kernel⟩
noncomputable def F_is_pair (K : PySem.W.Frag) (A : Adr) : Fn := fnF 1 [.r] (sSeq (sIf (gQT (tOr (tNot (tV (qCB isiV (aCons (qV 0) (aCons (qC (.ty "tuple")) (aNil)))))) (tV (qOp neV (qCB lenV (aCons (qV 0) (aNil))) (qC (.int 2)))))) (sRet (gQ (qC (.bl false)))) (sNext)) (sRet (gQ (qAnd (qCall [.r] (F_is_name K A) (aCons (qOp ixV (qV 0) (qC (.int 0))) (aNil))) (qAnd (qCall [.r] (F_is_name K A) (aCons (qOp ixV (qV 0) (qC (.int 1))) (aNil))) (qOp neV (qOp ixV (qV 0) (qC (.int 0))) (qOp ixV (qV 0) (qC (.int 1)))))))))
theorem ok_is_pair (T : Txt K mg A) : VFn P w K mg base "is_pair" 2 [.r] (F_is_pair K A) := vfn (k := 1) T.f_is_pair sc_is_pair rfl fun f cdv AA outer s H E hr =>
  (vss_cons (vs_if (gt_q (PW.pt (qw_or (qt_not (qt_val (qe_callB call_isi v_isi T.b_isinstance (by decide +kernel) (qa_cons (qv 0) (qa_cons (qe_ty (n := "tuple") T.b_tuple) qa_nil))))) (qw_or1 (qt_cmp (op_neU hr.units) v_ne (qe_callB call_lenU v_len T.b_len (by decide +kernel) (qa_cons (qv 0) qa_nil)) qe_int))))) (vss_one (vs_ret (ge_q qe_bl))) vss_nil)
    (vss_one (vs_ret (ge_q (qe_and (qe_call (ok_is_name T) (hr.mono (by decide)) (takes_of rfl rfl rfl rfl) (qa_cons (qe_ix (ix_U (hu1 hr)) v_ix (qv 0) qe_int) qa_nil)) (qe_and (qe_call (ok_is_name T) (hr.mono (by decide)) (takes_of rfl rfl rfl rfl) (qa_cons (qe_ix (ix_U (hu1 hr)) v_ix (qv 0) qe_int) qa_nil)) (qe_one (qe_cmp (op_neU hr.units) v_ne (qe_ix (ix_U (hu1 hr)) v_ix (qv 0) qe_int) (qe_ix (ix_U (hu1 hr)) v_ix (qv 0) qe_int)))))))))

/- sorted_pair: 0=pair -/
noncomputable abbrev s_sorted_pair : Stmt := (top 14)
theorem sc_sorted_pair : FnScope ["pair"] ["pair"] (defScope s_sorted_pair) := ⟨rfl, rfl, rfl, by decide +kernel, rfl, by decide +kernel, by decide +kernel⟩
noncomputable def F_sorted_pair (K : PySem.W.Frag) (A : Adr) : Fn := fnF 1 [.r] (sRet (gQ (qCB tupleV (aCons (qCB sortV (aCons (qCB listV (aCons (qV 0) (aNil))) (aNil))) (aNil)))))
theorem ok_sorted_pair (T : Txt K mg A) : VFn P w K mg base "sorted_pair" 1 [.r] (F_sorted_pair K A) := vfn (k := 0) T.f_sorted_pair sc_sorted_pair rfl fun f cdv AA outer s H E hr =>
  (vss_one (vs_ret (ge_q (qe_callTy call_tuple_of v_tuple T.b_tuple (by decide +kernel) (qa_cons (qe_callB (cr_sortB (hu65 hr)) v_sort T.b_sorted (by decide +kernel) (qa_cons (qe_callTy (call_listU rfl) v_list T.b_list (by decide +kernel) (qa_cons (qv 0) qa_nil)) qa_nil)) qa_nil)))))

/- sure: 0=good -/
noncomputable abbrev s_sure : Stmt := (top 15)
theorem sc_sure : FnScope ["good"] ["good"] (defScope s_sure) := ⟨rfl, rfl, rfl, by decide +kernel, rfl, by decide +kernel, by decide +kernel⟩
noncomputable def F_sure (K : PySem.W.Frag) (A : Adr) : Fn := fnF 1 [.r] (sIf (gQT (tNot (tV (qV 0)))) (sRaise A.c_NoWeb) (sNext))
theorem ok_sure (T : Txt K mg A) : VFn P w K mg base "sure" 1 [.r] (F_sure K A) := vfn (k := 0) T.f_sure sc_sure rfl fun f cdv AA outer s H E hr =>
  (vss_one (vs_if (gt_q (qt_not (qt_val (qv 0)))) (vss_one (vs_raise rfl (takes_of rfl rfl rfl rfl) T.x_NoWeb)) vss_nil))

/- strengths_of: 0=hands 1=found 2=row -/
noncomputable abbrev s_strengths_of : Stmt := (top 16)
theorem sc_strengths_of : FnScope ["hands", "found", "row"] ["hands"] (defScope s_strengths_of) := ⟨rfl, rfl, rfl, by decide +kernel, rfl, by decide +kernel, by decide +kernel⟩
noncomputable def F_strengths_of (K : PySem.W.Frag) (A : Adr) : Fn := fnF 3 [.r] (sSeq (sDrop (gQ (qCall [.r] (F_sure K A) (aCons (qAnd (qCB isiV (aCons (qV 0) (aCons (qC (.ty "list")) (aNil)))) (qChain leV leV (qC (.int 1)) (qCB lenV (aCons (qV 0) (aNil))) (qC k_MOST_HANDS))) (aNil))))) (sSeq (sDrop (gQ (qCall [.r] (F_sure K A) (aCons (qCB allV (aCons (qLc (iSeq (qV 0)) (.nm 2) (tYes) (qCall [.r] (F_is_hand_row K A) (aCons (qV 2) (aNil))) [2]) (aNil))) (aNil))))) (sSeq (sSet 1 (gQ (qCB dictV (aCons (qV 0) (aNil))))) (sSeq (sDrop (gQ (qCall [.r] (F_sure K A) (aCons (qOp eqV (qCB lenV (aCons (qV 1) (aNil))) (qCB lenV (aCons (qV 0) (aNil)))) (aNil))))) (sRet (gMove 1))))))
theorem ok_strengths_of (T : Txt K mg A) : VFn P w K mg base "strengths_of" 4 [.r] (F_strengths_of K A) := vfn (k := 3) T.f_strengths_of sc_strengths_of rfl fun f cdv AA outer s H E hr =>
  (vss_cons (vs_expr (ge_q (qe_call (ok_sure T) (hr.mono (by decide)) (takes_of rfl rfl rfl rfl) (qa_cons (qe_and (qe_callB call_isi v_isi T.b_isinstance (by decide +kernel) (qa_cons (qv 0) (qa_cons (qe_ty (n := "list") T.b_list) qa_nil))) (qe_one (qe_chain op_le op_le v_le v_le qe_int (qe_callB call_lenU v_len T.b_len (by decide +kernel) (qa_cons (qv 0) qa_nil)) (qe_const T.k_MOST_HANDS)))) qa_nil))))
    (vss_cons (vs_expr (ge_q (qe_call (ok_sure T) (hr.mono (by decide)) (takes_of rfl rfl rfl rfl) (qa_cons (qe_callB (cr_all rfl) v_all T.b_all (by decide +kernel) (qa_cons (qe_lc (own := [("row", 2)]) (tg := (.nm 2)) rfl sc_strengths_of.nd (qi_seq (qv 0)) (blkOk_by (own := [("row", 2)]) (N := ["hands", "found", "row"]) (sc := defScope s_strengths_of) (by decide +kernel)) (by decide) (fun _ _ _ _ _ => (pg_name (i := 2) sc_strengths_of.nd rfl (Or.inl rfl))) (fun _ _ _ _ _ => qts_nil) (fun _ _ _ _ _ => (qe_call (ok_is_hand_row T) (hr.mono (by decide)) takes0 (qa_cons (qv 2) qa_nil)))) qa_nil)) qa_nil))))
    (vss_cons (vs_set (i := 1) sc_strengths_of.nd rfl (Or.inl rfl) (ge_q (qe_callTy (call_dictU rfl) v_dict T.b_dict (by decide +kernel) (qa_cons (qv 0) qa_nil))))
    (vss_cons (vs_expr (ge_q (qe_call (ok_sure T) (hr.mono (by decide)) (takes_of rfl rfl rfl rfl) (qa_cons (qe_cmp (op_eqU hr.units) v_eq (qe_callB call_lenU v_len T.b_len (by decide +kernel) (qa_cons (qv 1) qa_nil)) (qe_callB call_lenU v_len T.b_len (by decide +kernel) (qa_cons (qv 0) qa_nil))) qa_nil))))
    (vss_one (vs_ret (ge_move (i := 1))))))))

/- pairs_of: 0=ties 1=strengths 2=found 3=pair 4=one 5=other -/
noncomputable abbrev s_pairs_of : Stmt := (top 17)
theorem sc_pairs_of : FnScope ["ties", "strengths", "found", "pair", "one", "other"] ["ties", "strengths"] (defScope s_pairs_of) := ⟨rfl, rfl, rfl, by decide +kernel, rfl, by decide +kernel, by decide +kernel⟩
noncomputable def F_pairs_of (K : PySem.W.Frag) (A : Adr) : Fn := fnF 6 [.r, .r] (sSeq (sDrop (gQ (qCall [.r] (F_sure K A) (aCons (qAnd (qCB isiV (aCons (qV 0) (aCons (qC (.ty "list")) (aNil)))) (qCB allV (aCons (qLc (iSeq (qV 0)) (.nm 3) (tYes) (qCall [.r] (F_is_pair K A) (aCons (qV 3) (aNil))) [3]) (aNil)))) (aNil))))) (sSeq (sSet 2 (gQ (qCB sortV (aCons (qLc (iSeq (qV 0)) (.nm 3) (tYes) (qCall [.r] (F_sorted_pair K A) (aCons (qV 3) (aNil))) [3]) (aNil))))) (sSeq (sDrop (gQ (qCall [.r] (F_sure K A) (aCons (qCB allV (aCons (qLc (iSeq (qV 2)) (.tp [(.nm 4), (.nm 5)]) (tYes) (qAnd (qOp inU (qV 4) (qV 1)) (qOp inU (qV 5) (qV 1))) [4, 5]) (aNil))) (aNil))))) (sSeq (sDrop (gQ (qCall [.r] (F_sure K A) (aCons (qOp eqV (qLenSet (qV 2)) (qCB lenV (aCons (qV 2) (aNil)))) (aNil))))) (sRet (gMove 2))))))
theorem ok_pairs_of (T : Txt K mg A) : VFn P w K mg base "pairs_of" 3 [.r, .r] (F_pairs_of K A) := vfn (k := 2) T.f_pairs_of sc_pairs_of rfl fun f cdv AA outer s H E hr =>
  (vss_cons (vs_expr (ge_q (qe_call (ok_sure T) (hr.mono (by decide)) (takes_of rfl rfl rfl rfl) (qa_cons (qe_and (qe_callB call_isi v_isi T.b_isinstance (by decide +kernel) (qa_cons (qv 0) (qa_cons (qe_ty (n := "list") T.b_list) qa_nil))) (qe_one (qe_callB (cr_all rfl) v_all T.b_all (by decide +kernel) (qa_cons (qe_lc (own := [("pair", 3)]) (tg := (.nm 3)) rfl sc_pairs_of.nd (qi_seq (qv 0)) (blkOk_by (own := [("pair", 3)]) (N := ["ties", "strengths", "found", "pair", "one", "other"]) (sc := defScope s_pairs_of) (by decide +kernel)) (by decide) (fun _ _ _ _ _ => (pg_name (i := 3) sc_pairs_of.nd rfl (Or.inl rfl))) (fun _ _ _ _ _ => qts_nil) (fun _ _ _ _ _ => (qe_call (ok_is_pair T) (hr.mono (by decide)) takes0 (qa_cons (qv 3) qa_nil)))) qa_nil)))) qa_nil))))
    (vss_cons (vs_set (i := 2) sc_pairs_of.nd rfl (Or.inl rfl) (ge_q (qe_callB (cr_sortB (hu65 hr)) v_sort T.b_sorted (by decide +kernel) (qa_cons (qe_lc (own := [("pair", 3)]) (tg := (.nm 3)) rfl sc_pairs_of.nd (qi_seq (qv 0)) (blkOk_by (own := [("pair", 3)]) (N := ["ties", "strengths", "found", "pair", "one", "other"]) (sc := defScope s_pairs_of) (by decide +kernel)) (by decide) (fun _ _ _ _ _ => (pg_name (i := 3) sc_pairs_of.nd rfl (Or.inl rfl))) (fun _ _ _ _ _ => qts_nil) (fun _ _ _ _ _ => (qe_call (ok_sorted_pair T) (hr.mono (by decide)) takes0 (qa_cons (qv 3) qa_nil)))) qa_nil))))
    (vss_cons (vs_expr (ge_q (qe_call (ok_sure T) (hr.mono (by decide)) (takes_of rfl rfl rfl rfl) (qa_cons (qe_callB (cr_all rfl) v_all T.b_all (by decide +kernel) (qa_cons (qe_lc (own := [("one", 4), ("other", 5)]) (tg := (.tp [(.nm 4), (.nm 5)])) rfl sc_pairs_of.nd (qi_seq (qv 2)) (blkOk_by (own := [("one", 4), ("other", 5)]) (N := ["ties", "strengths", "found", "pair", "one", "other"]) (sc := defScope s_pairs_of) (by decide +kernel)) (by decide) (fun _ _ _ _ _ => (tg_tp rfl (pgs_cons (pg_name (i := 4) sc_pairs_of.nd rfl (Or.inl rfl)) (pgs_cons (pg_name (i := 5) sc_pairs_of.nd rfl (Or.inl rfl)) pgs_nil)))) (fun _ _ _ _ _ => qts_nil) (fun _ _ _ _ _ => (qe_and (qe_cmp (op_inU (hu65 hr)) v_in (qv 4) (qv 1)) (qe_one (qe_cmp (op_inU (hu65 hr)) v_in (qv 5) (qv 1)))))) qa_nil)) qa_nil))))
    (vss_cons (vs_expr (ge_q (qe_call (ok_sure T) (hr.mono (by decide)) (takes_of rfl rfl rfl rfl) (qa_cons (qe_cmp (op_eqU hr.units) v_eq (qe_lenSet rfl (hu65 hr) T.b_len T.b_set (qv 2)) (qe_callB call_lenU v_len T.b_len (by decide +kernel) (qa_cons (qv 2) qa_nil))) qa_nil))))
    (vss_one (vs_ret (ge_move (i := 2))))))))

/- Web.__init__: 0=self 1=hands 2=ties -/
noncomputable abbrev s_Web___init__ : Stmt := (inClass (top 18) 0)
theorem sc_Web___init__ : FnScope ["self", "hands", "ties"] ["self", "hands", "ties"] (defScope s_Web___init__) := ⟨rfl, rfl, rfl, by decide +kernel, rfl, by decide +kernel, by decide +kernel⟩
noncomputable def F_Web___init__ (K : PySem.W.Frag) (A : Adr) : Fn := fnF 3 [.m, .r, .r] (sSeq (sFldF A.c_Web "strong" (pNm 0) (gQ (qCall [.r] (F_strengths_of K A) (aCons (qV 1) (aNil))))) (sFldF A.c_Web "pairs" (pNm 0) (gQ (qCall [.r, .r] (F_pairs_of K A) (aCons (qV 2) (aCons (qFld A.c_Web "strong" (qV 0)) (aNil)))))))
theorem ok_Web___init__ (T : Txt K mg A) : VMt P w K mg base A.c_Web "__init__" 5 [.m, .r, .r] (F_Web___init__ K A) := vmt (k := 4) T.f_Web___init__ sc_Web___init__ rfl fun f cdv AA outer s H E hr =>
  (vss_cons (vs_fld T.c_Web T.n_Web_strong (ge_q (qe_call (ok_strengths_of T) (hr.mono (by decide)) (takes_of rfl rfl rfl rfl) (qa_cons (qv 1) qa_nil))) (pp_nm 0))
    (vss_one (vs_fld T.c_Web T.n_Web_pairs (ge_q (qe_call (ok_pairs_of T) (hr.mono (by decide)) (takes_of rfl rfl rfl rfl) (qa_cons (qv 2) (qa_cons (qe_fld T.c_Web T.n_Web_strong (qv 0)) qa_nil)))) (pp_nm 0))))

/- Web.ties: 0=self -/
noncomputable abbrev s_Web_ties : Stmt := (inClass (top 18) 6)
theorem sc_Web_ties : FnScope ["self"] ["self"] (defScope s_Web_ties) := ⟨rfl, rfl, rfl, by decide +kernel, rfl, by decide +kernel, by decide +kernel⟩
noncomputable def F_Web_ties (K : PySem.W.Frag) (A : Adr) : Fn := fnF 1 [.r] (sRet (gQ (qCB listV (aCons (qFld A.c_Web "pairs" (qV 0)) (aNil)))))
theorem ok_Web_ties (T : Txt K mg A) : VMt P w K mg base A.c_Web "ties" 1 [.r] (F_Web_ties K A) := vmt (k := 0) T.f_Web_ties sc_Web_ties rfl fun f cdv AA outer s H E hr =>
  (vss_one (vs_ret (ge_q (qe_callTy (call_listU rfl) v_list T.b_list (by decide +kernel) (qa_cons (qe_fld T.c_Web T.n_Web_pairs (qv 0)) qa_nil)))))

/- put_into_row: 0=rows 1=pair 2=row 3=one -/
noncomputable abbrev s_put_into_row : Stmt := (top 19)
theorem sc_put_into_row : FnScope ["rows", "pair", "row", "one"] ["rows", "pair"] (defScope s_put_into_row) := ⟨rfl, rfl, rfl, by decide +kernel, rfl, by decide +kernel, by decide +kernel⟩
noncomputable def B0_put_into_row (K : PySem.W.Frag) (A : Adr) : FS := sKillO [2, 3] (sIf (gQT (tNot (tV (qCB anyV (aCons (qLc (iSeq (qV 2)) (.nm 3) (tYes) (qOr (qOp inU (qOp ixV (qV 1) (qC (.int 0))) (qV 3)) (qOp inU (qOp ixV (qV 1) (qC (.int 1))) (qV 3))) [3]) (aNil)))))) (sSeq (sDrop (gLm fAppend 2 (lCons (gFz 1) (lNil)))) (sRetN)) (sNext))
noncomputable def F_put_into_row (K : PySem.W.Frag) (A : Adr) : Fn := fnF 4 [.m, .k] (sSeq (sForA 0 2 (B0_put_into_row K A)) (sDrop (gLm fAppend 0 (lCons (gLstL (lCons (gMove 1) (lNil))) (lNil)))))
theorem ok_put_into_row (T : Txt K mg A) : VFn P w K mg base "put_into_row" 1 [.m, .k] (F_put_into_row K A) := vfn (k := 0) T.f_put_into_row sc_put_into_row rfl fun f cdv AA outer s H E hr =>
  (vss_cons (vs_forA (i := 0) (x := 2) (passes_of rfl) rfl (tg_nm (i := 2) sc_put_into_row.nd rfl (Or.inl rfl)) (vss_killO (is := [2, 3]) (vss_one (vs_if (gt_q (qt_not (qt_val (qe_callB (cr_any rfl) v_any T.b_any (by decide +kernel) (qa_cons (qe_lc (own := [("one", 3)]) (tg := (.nm 3)) rfl sc_put_into_row.nd (qi_seq (qv 2)) (blkOk_by (own := [("one", 3)]) (N := ["rows", "pair", "row", "one"]) (sc := defScope s_put_into_row) (by decide +kernel)) (by decide) (fun _ _ _ _ _ => (pg_name (i := 3) sc_put_into_row.nd rfl (Or.inl rfl))) (fun _ _ _ _ _ => qts_nil) (fun _ _ _ _ _ => (qe_or (qe_cmp (op_inU (hu65 hr)) v_in (qe_ix (ix_U (hu1 hr)) v_ix (qv 1) qe_int) (qv 3)) (qe_one (qe_cmp (op_inU (hu65 hr)) v_in (qe_ix (ix_U (hu1 hr)) v_ix (qv 1) qe_int) (qv 3)))))) qa_nil))))) (vss_cons (vs_expr (ge_lm PySem.F.slot_list_append PySem.F.type_list_append mt_append rm_append 2 (gl_cons (ge_fz (i := 1)) gl_nil)))
    (vss_one vs_retN)) vss_nil))))
    (vss_one (vs_expr (ge_lm PySem.F.slot_list_append PySem.F.type_list_append mt_append rm_append 0 (gl_cons (ge_lstL (gl_cons (ge_move (i := 1)) gl_nil)) gl_nil)))))

/- Web.turns: 0=self 1=rows 2=pair -/
noncomputable abbrev s_Web_turns : Stmt := (inClass (top 18) 8)
theorem sc_Web_turns : FnScope ["self", "rows", "pair"] ["self"] (defScope s_Web_turns) := ⟨rfl, rfl, rfl, by decide +kernel, rfl, by decide +kernel, by decide +kernel⟩
noncomputable def B0_Web_turns (K : PySem.W.Frag) (A : Adr) : FS := sKillO [2] (sDrop (gCall (F_put_into_row K A) (faQ [.m 1, .k (qV 2)])))
noncomputable def F_Web_turns (K : PySem.W.Frag) (A : Adr) : Fn := fnF 3 [.r] (sSeq (sSet 1 (gQ (qLst (aNil)))) (sSeq (sFor (giSeq (gQ (qFld A.c_Web "pairs" (qV 0)))) (.nm 2) (B0_Web_turns K A)) (sRet (gMove 1))))
theorem ok_Web_turns (T : Txt K mg A) : VMt P w K mg base A.c_Web "turns" 2 [.r] (F_Web_turns K A) := vmt (k := 1) T.f_Web_turns sc_Web_turns rfl fun f cdv AA outer s H E hr =>
  (vss_cons (vs_set (i := 1) sc_Web_turns.nd rfl (Or.inl rfl) (ge_q (qe_lst qa_nil)))
    (vss_cons (vs_for (tg := (.nm 2)) (passes_of rfl) rfl (gi_seq (ge_q (qe_fld T.c_Web T.n_Web_pairs (qv 0)))) (tg_nm (i := 2) sc_Web_turns.nd rfl (Or.inl rfl)) (vss_killO (is := [2]) (vss_one (vs_expr (ge_call (ok_put_into_row T) (hr.mono (by decide)) (takes_of rfl rfl rfl rfl) (ca_q (.m 1 (.k (qv 2) .nil))))))))
    (vss_one (vs_ret (ge_move (i := 1))))))

/- _law_digit: 0=_law_state 1=_law_base 2=_law_found 3=_law_number -/
noncomputable abbrev s__law_digit : Stmt := (top 22)
theorem sc__law_digit : FnScope ["_law_state", "_law_base", "_law_found", "_law_number"] ["_law_state", "_law_base"] (defScope s__law_digit) := ⟨rfl, rfl, rfl, by decide +kernel, rfl, by decide +kernel, by decide +kernel⟩
noncomputable def F__law_digit (K : PySem.W.Frag) (A : Adr) : Fn := fnF 4 [.m, .r] (sSeq (sIf (gQT (tV (qOp eqV (qCB lenV (aCons (qV 0) (aNil))) (qC (.int 1))))) (sDrop (gLm fExtend 0 (lCons (gQ (qLst (aCons (qOp modV (qOp ixV (qV 0) (qC (.int 0))) (qC (.int 2147483647))) (aCons (qC (.int 0)) (aNil))))) (lNil)))) (sNext)) (sSeq (sIf (gQT (tV (qOp gtV (qOp ixV (qV 0) (qC (.int 0))) (qC (.int 0))))) (sSeq (sSet 2 (gQ (qOp modV (qOp ixV (qV 0) (qC (.int 0))) (qV 1)))) (sSeq (sSubL (pNm 0) (qC (.int 0)) (gQ (qOp fdivV (qOp ixV (qV 0) (qC (.int 0))) (qV 1)))) (sRet (gQ (qV 2))))) (sNext)) (sSeq (sSubL (pNm 0) (qC (.int 2)) (gQ (qOp addV (qOp ixV (qV 0) (qC (.int 2))) (qC (.int 1))))) (sSeq (sSet 3 (gQ (qOp modV (qOp mulV (qOp addV (qOp addV (qOp ixV (qV 0) (qC (.int 1))) (qOp mulV (qC (.int 7919)) (qOp ixV (qV 0) (qC (.int 2))))) (qC (.int 1))) (qC (.int 48271))) (qC (.int 2147483647))))) (sSeq (sSet 3 (gQ (qOp modV (qOp mulV (qV 3) (qOp addV (qOp fdivV (qV 3) (qC (.int 1009))) (qC (.int 69621)))) (qC (.int 2147483647))))) (sRet (gQ (qOp modV (qOp modV (qOp mulV (qV 3) (qOp addV (qOp fdivV (qV 3) (qC (.int 2003))) (qC (.int 40692)))) (qC (.int 2147483399))) (qV 1)))))))))
theorem ok__law_digit (T : Txt K mg A) : VFn P w K mg base "_law_digit" 1 [.m, .r] (F__law_digit K A) := vfn (k := 0) T.f__law_digit sc__law_digit rfl fun f cdv AA outer s H E hr =>
  (vss_cons (vs_if (gt_q (qt_cmp (op_eqU hr.units) v_eq (qe_callB call_lenU v_len T.b_len (by decide +kernel) (qa_cons (qv 0) qa_nil)) qe_int)) (vss_one (vs_expr (ge_lm PySem.F.slot_list_extend PySem.F.type_list_extend mt_extend rm_extend 0 (gl_cons (ge_q (qe_lst (qa_cons (qe_op op_mod v_mod (qe_ix (ix_U (hu1 hr)) v_ix (qv 0) qe_int) qe_int) (qa_cons qe_int qa_nil)))) gl_nil)))) vss_nil)
    (vss_cons (vs_if (gt_q (qt_cmp op_gt v_gt (qe_ix (ix_U (hu1 hr)) v_ix (qv 0) qe_int) qe_int)) (vss_cons (vs_set (i := 2) sc__law_digit.nd rfl (Or.inl rfl) (ge_q (qe_op op_mod v_mod (qe_ix (ix_U (hu1 hr)) v_ix (qv 0) qe_int) (qv 1))))
    (vss_cons (vs_subL (hu1 hr) (ge_q (qe_op op_fdivW v_fdiv (qe_ix (ix_U (hu1 hr)) v_ix (qv 0) qe_int) (qv 1))) (pp_nm 0) qe_int)
    (vss_one (vs_ret (ge_q (qv 2)))))) vss_nil)
    (vss_cons (vs_subL (hu1 hr) (ge_q (qe_op (op_addU) v_add (qe_ix (ix_U (hu1 hr)) v_ix (qv 0) qe_int) qe_int)) (pp_nm 0) qe_int)
    (vss_cons (vs_set (i := 3) sc__law_digit.nd rfl (Or.inl rfl) (ge_q (qe_op op_mod v_mod (qe_op op_mulU v_mul (qe_op (op_addU) v_add (qe_op (op_addU) v_add (qe_ix (ix_U (hu1 hr)) v_ix (qv 0) qe_int) (qe_op op_mulU v_mul qe_int (qe_ix (ix_U (hu1 hr)) v_ix (qv 0) qe_int))) qe_int) qe_int) qe_int)))
    (vss_cons (vs_set (i := 3) sc__law_digit.nd rfl (Or.inl rfl) (ge_q (qe_op op_mod v_mod (qe_op op_mulU v_mul (qv 3) (qe_op (op_addU) v_add (qe_op op_fdivW v_fdiv (qv 3) qe_int) qe_int)) qe_int)))
    (vss_one (vs_ret (ge_q (qe_op op_mod v_mod (qe_op op_mod v_mod (qe_op op_mulU v_mul (qv 3) (qe_op (op_addU) v_add (qe_op op_fdivW v_fdiv (qv 3) qe_int) qe_int)) qe_int) (qv 1))))))))))

/- _law_name: 0=_law_state 1=_law_found 2=_law_k -/
noncomputable abbrev s__law_name : Stmt := (top 23)
theorem sc__law_name : FnScope ["_law_state", "_law_found", "_law_k"] ["_law_state"] (defScope s__law_name) := ⟨rfl, rfl, rfl, by decide +kernel, rfl, by decide +kernel, by decide +kernel⟩
noncomputable def B0__law_name (K : PySem.W.Frag) (A : Adr) : FS := sKillO [2] (sSet 1 (gOp addV (gQ (qV 1)) (gOp ixV (gQ (qC (.str "abcdefghijklmnopqrstuvwxyz"))) (gCall (F__law_digit K A) (faQ [.m 0, .q (qC (.int 26))])))))
noncomputable def F__law_name (K : PySem.W.Frag) (A : Adr) : Fn := fnF 3 [.m] (sSeq (sSet 1 (gQ (qC (.str "")))) (sSeq (sFor (giRange rng1 (gCons (gOp addV (gQ (qC (.int 1))) (gCall (F__law_digit K A) (faQ [.m 0, .q (qC (.int 8))]))) (gNil))) (.nm 2) (B0__law_name K A)) (sRet (gMove 1))))
theorem ok__law_name (T : Txt K mg A) : VFn P w K mg base "_law_name" 2 [.m] (F__law_name K A) := vfn (k := 1) T.f__law_name sc__law_name rfl fun f cdv AA outer s H E hr =>
  (vss_cons (vs_set (i := 1) sc__law_name.nd rfl (Or.inl rfl) (ge_q qe_str))
    (vss_cons (vs_for (tg := (.nm 2)) (passes_of rfl) rfl (gi_range1 T.b_range (ga_cons (ge_op (op_addU) v_add (ge_q qe_int) (ge_call (ok__law_digit T) (hr.mono (by decide)) (takes_of rfl rfl rfl rfl) (ca_q (.m 0 (.q qe_int .nil))))) ga_nil)) (tg_nm (i := 2) sc__law_name.nd rfl (Or.inl rfl)) (vss_killO (is := [2]) (vss_one (vs_set (i := 1) sc__law_name.nd rfl (Or.inl rfl) (ge_op (op_addU) v_add (ge_q (qv 1)) (ge_ix (ix_U (hu1 hr)) v_ix (ge_q qe_str) (ge_call (ok__law_digit T) (hr.mono (by decide)) (takes_of rfl rfl rfl rfl) (ca_q (.m 0 (.q qe_int .nil))))))))))
    (vss_one (vs_ret (ge_move (i := 1))))))

/- _law_hands: 0=_law_state 1=_law_most 2=_law_found 3=_law_k 4=_law_name_here 5=_law_strength 6=_law_one -/
noncomputable abbrev s__law_hands : Stmt := (top 24)
theorem sc__law_hands : FnScope ["_law_state", "_law_most", "_law_found", "_law_k", "_law_name_here", "_law_strength", "_law_one"] ["_law_state", "_law_most"] (defScope s__law_hands) := ⟨rfl, rfl, rfl, by decide +kernel, rfl, by decide +kernel, by decide +kernel⟩
noncomputable def B0__law_hands (K : PySem.W.Frag) (A : Adr) : FS := sKillO [3, 4, 5, 6] (sSeq (sSet 4 (gCall (F__law_name K A) (faQ [.m 0]))) (sIf (gQT (tV (qOp ninU (qV 4) (qLc (iSeq (qV 2)) (.tp [(.nm 6), (.nm 5)]) (tYes) (qV 6) [6, 5])))) (sSeq (sSet 5 (gOp ixV (gSt (gLstL (lCons (gQ (qC (.int 1))) (lCons (gOp addV (gQ (qC (.int 1))) (gCall (F__law_digit K A) (faQ [.m 0, .q (qC (.int 9))]))) (lCons (gOp addV (gQ (qC (.int 1))) (gCall (F__law_digit K A) (faQ [.m 0, .q (qC (.int 1000))]))) (lCons (gQ (qC (.int 1000))) (lNil))))))) (gCall (F__law_digit K A) (faQ [.m 0, .q (qC (.int 4))])))) (sDrop (gLm fInsert 2 (lCons (gCall (F__law_digit K A) (faQ [.m 0, .q (qOp addV (qCB lenV (aCons (qV 2) (aNil))) (qC (.int 1)))])) (lCons (gTupL (lCons (gQ (qV 4)) (lCons (gFz 5) (lNil)))) (lNil)))))) (sNext)))
noncomputable def F__law_hands (K : PySem.W.Frag) (A : Adr) : Fn := fnF 7 [.m, .r] (sSeq (sSet 2 (gQ (qLst (aNil)))) (sSeq (sFor (giRange rng1 (gCons (gOp addV (gQ (qC (.int 1))) (gCall (F__law_digit K A) (faQ [.m 0, .q (qV 1)]))) (gNil))) (.nm 3) (B0__law_hands K A)) (sRet (gMove 2))))
theorem ok__law_hands (T : Txt K mg A) : VFn P w K mg base "_law_hands" 3 [.m, .r] (F__law_hands K A) := vfn (k := 2) T.f__law_hands sc__law_hands rfl fun f cdv AA outer s H E hr =>
  (vss_cons (vs_set (i := 2) sc__law_hands.nd rfl (Or.inl rfl) (ge_q (qe_lst qa_nil)))
    (vss_cons (vs_for (tg := (.nm 3)) (passes_of rfl) rfl (gi_range1 T.b_range (ga_cons (ge_op (op_addU) v_add (ge_q qe_int) (ge_call (ok__law_digit T) (hr.mono (by decide)) (takes_of rfl rfl rfl rfl) (ca_q (.m 0 (.q (qv 1) .nil))))) ga_nil)) (tg_nm (i := 3) sc__law_hands.nd rfl (Or.inl rfl)) (vss_killO (is := [3, 4, 5, 6]) (vss_cons (vs_set (i := 4) sc__law_hands.nd rfl (Or.inl rfl) (ge_call (ok__law_name T) (hr.mono (by decide)) (takes_of rfl rfl rfl rfl) (ca_q (.m 0 .nil))))
    (vss_one (vs_if (gt_q (qt_cmp (op_notInU (hu65 hr)) v_nin (qv 4) (qe_lc (own := [("_law_one", 6), ("_law_strength", 5)]) (tg := (.tp [(.nm 6), (.nm 5)])) rfl sc__law_hands.nd (qi_seq (qv 2)) (blkOk_by (own := [("_law_one", 6), ("_law_strength", 5)]) (N := ["_law_state", "_law_most", "_law_found", "_law_k", "_law_name_here", "_law_strength", "_law_one"]) (sc := defScope s__law_hands) (by decide +kernel)) (by decide) (fun _ _ _ _ _ => (tg_tp rfl (pgs_cons (pg_name (i := 6) sc__law_hands.nd rfl (Or.inl rfl)) (pgs_cons (pg_name (i := 5) sc__law_hands.nd rfl (Or.inl rfl)) pgs_nil)))) (fun _ _ _ _ _ => qts_nil) (fun _ _ _ _ _ => (qv 6))))) (vss_cons (vs_set (i := 5) sc__law_hands.nd rfl (Or.inl rfl) (ge_ix (ix_U (hu1 hr)) v_ix (ge_st (ge_lstL (gl_cons (ge_q qe_int) (gl_cons (ge_op (op_addU) v_add (ge_q qe_int) (ge_call (ok__law_digit T) (hr.mono (by decide)) (takes_of rfl rfl rfl rfl) (ca_q (.m 0 (.q qe_int .nil))))) (gl_cons (ge_op (op_addU) v_add (ge_q qe_int) (ge_call (ok__law_digit T) (hr.mono (by decide)) (takes_of rfl rfl rfl rfl) (ca_q (.m 0 (.q qe_int .nil))))) (gl_cons (ge_q qe_int) gl_nil)))))) (ge_call (ok__law_digit T) (hr.mono (by decide)) (takes_of rfl rfl rfl rfl) (ca_q (.m 0 (.q qe_int .nil))))))
    (vss_one (vs_expr (ge_lm PySem.F.slot_list_insert PySem.F.type_list_insert mt_insert rm_insert 2 (gl_cons (ge_call (ok__law_digit T) (hr.mono (by decide)) (takes_of rfl rfl rfl rfl) (ca_q (.m 0 (.q (qe_op (op_addU) v_add (qe_callB call_lenU v_len T.b_len (by decide +kernel) (qa_cons (qv 2) qa_nil)) qe_int) .nil)))) (gl_cons (ge_tupL (gl_cons (ge_q (qv 4)) (gl_cons (ge_fz (i := 5)) gl_nil))) gl_nil)))))) vss_nil)))))
    (vss_one (vs_ret (ge_move (i := 2))))))

/- _law_ties: 0=_law_state 1=_law_hands_here 2=_law_names 3=_law_few 4=_law_found 5=_law_k 6=_law_other 7=_law_tie 8=_law_name_here 9=_law_strength -/
noncomputable abbrev s__law_ties : Stmt := (top 25)
theorem sc__law_ties : FnScope ["_law_state", "_law_hands_here", "_law_names", "_law_few", "_law_found", "_law_k", "_law_other", "_law_tie", "_law_name_here", "_law_strength"] ["_law_state", "_law_hands_here"] (defScope s__law_ties) := ⟨rfl, rfl, rfl, by decide +kernel, rfl, by decide +kernel, by decide +kernel⟩
noncomputable def B0__law_ties (K : PySem.W.Frag) (A : Adr) : FS := sKillO [6, 7] (sIf (gTV (gOp ltV (gCall (F__law_digit K A) (faQ [.m 0, .q (qC (.int 4))])) (gQ (qV 3)))) (sSeq (sSet 7 (gOp ixV (gSt (gQ (qLst (aCons (qTup (aCons (qOp ixV (qV 2) (qV 5)) (aCons (qV 6) (aNil)))) (aCons (qTup (aCons (qV 6) (aCons (qOp ixV (qV 2) (qV 5)) (aNil)))) (aNil)))))) (gCall (F__law_digit K A) (faQ [.m 0, .q (qC (.int 2))])))) (sDrop (gLm fInsert 4 (lCons (gCall (F__law_digit K A) (faQ [.m 0, .q (qOp addV (qCB lenV (aCons (qV 4) (aNil))) (qC (.int 1)))])) (lCons (gFz 7) (lNil)))))) (sNext))
noncomputable def B1__law_ties (K : PySem.W.Frag) (A : Adr) : FS := sKillO [5, 6, 7] (sFor (giSeq (gQ (qSl slV (qV 2) oNone (oSome (qV 5))))) (.nm 6) (B0__law_ties K A))
noncomputable def F__law_ties (K : PySem.W.Frag) (A : Adr) : Fn := fnF 10 [.m, .r] (sSeq (sSet 2 (gQ (qLc (iSeq (qV 1)) (.tp [(.nm 8), (.nm 9)]) (tYes) (qV 8) [8, 9]))) (sSeq (sSet 3 (gOp addV (gQ (qC (.int 1))) (gCall (F__law_digit K A) (faQ [.m 0, .q (qC (.int 3))])))) (sSeq (sSet 4 (gQ (qLst (aNil)))) (sSeq (sFor (giRange rng1 (gCons (gQ (qCB lenV (aCons (qV 2) (aNil)))) (gNil))) (.nm 5) (B1__law_ties K A)) (sRet (gMove 4))))))
theorem ok__law_ties (T : Txt K mg A) : VFn P w K mg base "_law_ties" 2 [.m, .r] (F__law_ties K A) := vfn (k := 1) T.f__law_ties sc__law_ties rfl fun f cdv AA outer s H E hr =>
  (vss_cons (vs_setLc (i := 2) (own := [("_law_name_here", 8), ("_law_strength", 9)]) (tg := (.tp [(.nm 8), (.nm 9)])) rfl sc__law_ties.nd rfl rfl (sw_true rfl rfl rfl (by decide +kernel)) (qi_seq (qv 1)) (blkOk_by (own := [("_law_name_here", 8), ("_law_strength", 9)]) (N := ["_law_state", "_law_hands_here", "_law_names", "_law_few", "_law_found", "_law_k", "_law_other", "_law_tie", "_law_name_here", "_law_strength"]) (sc := defScope s__law_ties) (by decide +kernel)) (by decide) (fun _ _ _ _ _ => (tg_tp rfl (pgs_cons (pg_name (i := 8) sc__law_ties.nd rfl (Or.inl rfl)) (pgs_cons (pg_name (i := 9) sc__law_ties.nd rfl (Or.inl rfl)) pgs_nil)))) (fun _ _ _ _ _ => qts_nil) (fun _ _ _ _ _ => (qv 8)))
    (vss_cons (vs_set (i := 3) sc__law_ties.nd rfl (Or.inl rfl) (ge_op (op_addU) v_add (ge_q qe_int) (ge_call (ok__law_digit T) (hr.mono (by decide)) (takes_of rfl rfl rfl rfl) (ca_q (.m 0 (.q qe_int .nil))))))
    (vss_cons (vs_set (i := 4) sc__law_ties.nd rfl (Or.inl rfl) (ge_q (qe_lst qa_nil)))
    (vss_cons (vs_for (tg := (.nm 5)) (passes_of rfl) rfl (gi_range1 T.b_range (ga_cons (ge_q (qe_callB call_lenU v_len T.b_len (by decide +kernel) (qa_cons (qv 2) qa_nil))) ga_nil)) (tg_nm (i := 5) sc__law_ties.nd rfl (Or.inl rfl)) (vss_killO (is := [5, 6, 7]) (vss_one (vs_for (tg := (.nm 6)) (passes_of rfl) rfl (gi_seq (ge_q (qe_slice sl_U v_sl (qv 2) qo_none (qo_some (qv 5))))) (tg_nm (i := 6) sc__law_ties.nd rfl (Or.inl rfl)) (vss_killO (is := [6, 7]) (vss_one (vs_if (gt_cmp op_ltU v_lt (ge_call (ok__law_digit T) (hr.mono (by decide)) (takes_of rfl rfl rfl rfl) (ca_q (.m 0 (.q qe_int .nil)))) (ge_q (qv 3))) (vss_cons (vs_set (i := 7) sc__law_ties.nd rfl (Or.inl rfl) (ge_ix (ix_U (hu1 hr)) v_ix (ge_st (ge_q (qe_lst (qa_cons (qe_tup (qa_cons (qe_ix (ix_U (hu1 hr)) v_ix (qv 2) (qv 5)) (qa_cons (qv 6) qa_nil))) (qa_cons (qe_tup (qa_cons (qv 6) (qa_cons (qe_ix (ix_U (hu1 hr)) v_ix (qv 2) (qv 5)) qa_nil))) qa_nil))))) (ge_call (ok__law_digit T) (hr.mono (by decide)) (takes_of rfl rfl rfl rfl) (ca_q (.m 0 (.q qe_int .nil))))))
    (vss_one (vs_expr (ge_lm PySem.F.slot_list_insert PySem.F.type_list_insert mt_insert rm_insert 4 (gl_cons (ge_call (ok__law_digit T) (hr.mono (by decide)) (takes_of rfl rfl rfl rfl) (ca_q (.m 0 (.q (qe_op (op_addU) v_add (qe_callB call_lenU v_len T.b_len (by decide +kernel) (qa_cons (qv 4) qa_nil)) qe_int) .nil)))) (gl_cons (ge_fz (i := 7)) gl_nil)))))) vss_nil)))))))
    (vss_one (vs_ret (ge_move (i := 4))))))))

/- _law_first: 0=_law_placed 1=_law_tie 2=_law_taken 3=_law_row 4=_law_other 5=_law_k -/
noncomputable abbrev s__law_first : Stmt := (top 26)
theorem sc__law_first : FnScope ["_law_placed", "_law_tie", "_law_taken", "_law_row", "_law_other", "_law_k"] ["_law_placed", "_law_tie"] (defScope s__law_first) := ⟨rfl, rfl, rfl, by decide +kernel, rfl, by decide +kernel, by decide +kernel⟩
noncomputable def B0__law_first (K : PySem.W.Frag) (A : Adr) : FS := sSet 3 (gQ (qOp addV (qV 3) (qC (.int 1))))
noncomputable def F__law_first (K : PySem.W.Frag) (A : Adr) : Fn := fnF 6 [.r, .r] (sSeq (sSet 2 (gQ (qLc (iSeq (qV 0)) (.tp [(.nm 4), (.nm 5)]) (tOr (tV (qOp inU (qOp ixV (qV 1) (qC (.int 0))) (qV 4))) (tV (qOp inU (qOp ixV (qV 1) (qC (.int 1))) (qV 4)))) (qV 5) [4, 5]))) (sSeq (sSet 3 (gQ (qC (.int 0)))) (sSeq (sWhile (gQT (tV (qOp inU (qV 3) (qV 2)))) (B0__law_first K A)) (sRet (gQ (qV 3))))))
theorem ok__law_first (T : Txt K mg A) : VFn P w K mg base "_law_first" 1 [.r, .r] (F__law_first K A) := vfn (k := 0) T.f__law_first sc__law_first rfl fun f cdv AA outer s H E hr =>
  (vss_cons (vs_setLc (i := 2) (own := [("_law_other", 4), ("_law_k", 5)]) (tg := (.tp [(.nm 4), (.nm 5)])) rfl sc__law_first.nd rfl rfl (sw_true rfl rfl rfl (by decide +kernel)) (qi_seq (qv 0)) (blkOk_by (own := [("_law_other", 4), ("_law_k", 5)]) (N := ["_law_placed", "_law_tie", "_law_taken", "_law_row", "_law_other", "_law_k"]) (sc := defScope s__law_first) (by decide +kernel)) (by decide) (fun _ _ _ _ _ => (tg_tp rfl (pgs_cons (pg_name (i := 4) sc__law_first.nd rfl (Or.inl rfl)) (pgs_cons (pg_name (i := 5) sc__law_first.nd rfl (Or.inl rfl)) pgs_nil)))) (fun _ _ _ _ _ => (qts_one (PW.pt (qw_or (qt_cmp (op_inU (hu65 hr)) v_in (qe_ix (ix_U (hu1 hr)) v_ix (qv 1) qe_int) (qv 4)) (qw_or1 (qt_cmp (op_inU (hu65 hr)) v_in (qe_ix (ix_U (hu1 hr)) v_ix (qv 1) qe_int) (qv 4))))))) (fun _ _ _ _ _ => (qv 5)))
    (vss_cons (vs_set (i := 3) sc__law_first.nd rfl (Or.inl rfl) (ge_q qe_int))
    (vss_cons (vs_while (passes_of rfl) (gt_q (qt_cmp (op_inU (hu65 hr)) v_in (qv 3) (qv 2))) (vss_one (vs_set (i := 3) sc__law_first.nd rfl (Or.inl rfl) (ge_q (qe_op (op_addU) v_add (qv 3) qe_int)))))
    (vss_one (vs_ret (ge_q (qv 3)))))))

/- _law_due: 0=_law_ties_here 1=_law_placed 2=_law_tie 3=_law_many 4=_law_k 5=_law_one 6=_law_row -/
noncomputable abbrev s__law_due : Stmt := (top 27)
theorem sc__law_due : FnScope ["_law_ties_here", "_law_placed", "_law_tie", "_law_many", "_law_k", "_law_one", "_law_row"] ["_law_ties_here"] (defScope s__law_due) := ⟨rfl, rfl, rfl, by decide +kernel, rfl, by decide +kernel, by decide +kernel⟩
noncomputable def B0__law_due (K : PySem.W.Frag) (A : Adr) : FS := sDrop (gLm fAppend 1 (lCons (gTupL (lCons (gFz 2) (lCons (gQ (qCall [.r, .r] (F__law_first K A) (aCons (qV 1) (aCons (qV 2) (aNil))))) (lNil)))) (lNil)))
noncomputable def F__law_due (K : PySem.W.Frag) (A : Adr) : Fn := fnF 7 [.r] (sSeq (sSet 1 (gQ (qLst (aNil)))) (sSeq (sFor (giSeq (gQ (qCB sortV (aCons (qLc (iSeq (qV 0)) (.nm 5) (tYes) (qCB tupleV (aCons (qCB sortV (aCons (qCB listV (aCons (qV 5) (aNil))) (aNil))) (aNil))) [5]) (aNil))))) (.nm 2) (B0__law_due K A)) (sSeq (sSet 3 (gQ (qMaxD (qLc (iSeq (qV 1)) (.tp [(.nm 2), (.nm 6)]) (tYes) (qOp addV (qV 6) (qC (.int 1))) [2, 6]) (qC (.int 0))))) (sRet (gQ (qLc (iRange rng1 (aCons (qV 3) (aNil))) (.nm 4) (tYes) (qLc (iSeq (qV 1)) (.tp [(.nm 2), (.nm 6)]) (tV (qOp eqV (qV 6) (qV 4))) (qV 2) [2, 6]) [4]))))))
theorem ok__law_due (T : Txt K mg A) : VFn P w K mg base "_law_due" 2 [.r] (F__law_due K A) := vfn (k := 1) T.f__law_due sc__law_due rfl fun f cdv AA outer s H E hr =>
  (vss_cons (vs_set (i := 1) sc__law_due.nd rfl (Or.inr rfl) (ge_q (qe_lst qa_nil)))
    (vss_cons (vs_for (tg := (.nm 2)) (passes_of rfl) rfl (gi_seq (ge_q (qe_callB (cr_sortB (hu65 hr)) v_sort T.b_sorted (by decide +kernel) (qa_cons (qe_lc (own := [("_law_one", 5)]) (tg := (.nm 5)) rfl sc__law_due.nd (qi_seq (qv 0)) (blkOk_by (own := [("_law_one", 5)]) (N := ["_law_ties_here", "_law_placed", "_law_tie", "_law_many", "_law_k", "_law_one", "_law_row"]) (sc := defScope s__law_due) (by decide +kernel)) (by decide) (fun _ _ _ _ _ => (pg_name (i := 5) sc__law_due.nd rfl (Or.inl rfl))) (fun _ _ _ _ _ => qts_nil) (fun _ _ _ _ _ => (qe_callTy call_tuple_of v_tuple T.b_tuple (by decide +kernel) (qa_cons (qe_callB (cr_sortB (hu65 hr)) v_sort T.b_sorted (by decide +kernel) (qa_cons (qe_callTy (call_listU rfl) v_list T.b_list (by decide +kernel) (qa_cons (qv 5) qa_nil)) qa_nil)) qa_nil)))) qa_nil)))) (tg_nm (i := 2) sc__law_due.nd rfl (Or.inl rfl)) (vss_one (vs_expr (ge_lm PySem.F.slot_list_append PySem.F.type_list_append mt_append rm_append 1 (gl_cons (ge_tupL (gl_cons (ge_fz (i := 2)) (gl_cons (ge_q (qe_call (ok__law_first T) (hr.mono (by decide)) (takes_of rfl rfl rfl rfl) (qa_cons (qv 1) (qa_cons (qv 2) qa_nil)))) gl_nil))) gl_nil)))))
    (vss_cons (vs_set (i := 3) sc__law_due.nd rfl (Or.inl rfl) (ge_q (qe_maxD rfl (hu65 hr) (qe_lc (own := [("_law_tie", 2), ("_law_row", 6)]) (tg := (.tp [(.nm 2), (.nm 6)])) rfl sc__law_due.nd (qi_seq (qv 1)) (blkOk_by (own := [("_law_tie", 2), ("_law_row", 6)]) (N := ["_law_ties_here", "_law_placed", "_law_tie", "_law_many", "_law_k", "_law_one", "_law_row"]) (sc := defScope s__law_due) (by decide +kernel)) (by decide) (fun _ _ _ _ _ => (tg_tp rfl (pgs_cons (pg_name (i := 2) sc__law_due.nd rfl (Or.inl rfl)) (pgs_cons (pg_name (i := 6) sc__law_due.nd rfl (Or.inl rfl)) pgs_nil)))) (fun _ _ _ _ _ => qts_nil) (fun _ _ _ _ _ => (qe_op (op_addU) v_add (qv 6) qe_int))) qe_int T.b_max (by decide +kernel))))
    (vss_one (vs_ret (ge_q (qe_lc (own := [("_law_k", 4)]) (tg := (.nm 4)) rfl sc__law_due.nd (qi_range1 T.b_range (qa_cons (qv 3) qa_nil)) (blkOk_by (own := [("_law_k", 4)]) (N := ["_law_ties_here", "_law_placed", "_law_tie", "_law_many", "_law_k", "_law_one", "_law_row"]) (sc := defScope s__law_due) (by decide +kernel)) (by decide) (fun _ _ _ _ _ => (pg_name (i := 4) sc__law_due.nd rfl (Or.inr rfl))) (fun _ _ _ _ _ => qts_nil) (fun _ _ _ _ _ => (qe_lc (own := [("_law_tie", 2), ("_law_row", 6)]) (tg := (.tp [(.nm 2), (.nm 6)])) rfl sc__law_due.nd (qi_seq (qv 1)) (blkOk_by (own := [("_law_tie", 2), ("_law_row", 6)]) (by rfl)) (by decide) (fun _ _ _ _ _ => (tg_tp rfl (pgs_cons (pg_name (i := 2) sc__law_due.nd rfl (Or.inl rfl)) (pgs_cons (pg_name (i := 6) sc__law_due.nd rfl (Or.inl rfl)) pgs_nil)))) (fun _ _ _ _ _ => (qts_one (qt_cmp (op_eqU hr.units) v_eq (qv 6) (qv 4)))) (fun _ _ _ _ _ => (qv 2)))))))))))

/- law: 0=_law_script 1=_law_cell 2=_law_state 3=_law_hands_here 4=_law_ties_here 5=_law_web 6=_law_due_here 7=_law_again 8=_law_told -/
noncomputable abbrev s_law : Stmt := (top 28)
theorem sc_law : FnScope ["_law_script", "_law_cell", "_law_state", "_law_hands_here", "_law_ties_here", "_law_web", "_law_due_here", "_law_again", "_law_told"] ["_law_script"] (defScope s_law) := ⟨rfl, rfl, rfl, by decide +kernel, rfl, by decide +kernel, by decide +kernel⟩
noncomputable def B0_law (K : PySem.W.Frag) (A : Adr) : FS := sKillO [7, 8] (sSeq (sSet 8 (gCall (F_Web_turns K A) (fmQ A.c_Web "turns" [.q (qV 5)]))) (sSeq (sIf (gQT (tOr (tNot (tV (qCB isiV (aCons (qV 8) (aCons (qC (.ty "list")) (aNil)))))) (tV (qOp neV (qV 8) (qV 6))))) (sRet (gQ (qC (.bl false)))) (sNext)) (sSeq (sIf (gQT (tV (qOp neV (qV 8) (qLst (aNil))))) (sDrop (gLmP fAppend (pIx (pNm 8) (qC (.int 0))) (mqCons (qTup (aCons (qC (.str "a")) (aCons (qC (.str "b")) (aNil)))) (mqNil)))) (sNext)) (sDrop (gLm fAppend 8 (lCons (gQ (qLst (aNil))) (lNil)))))))
noncomputable def B1_law (K : PySem.W.Frag) (A : Adr) : FS := sKillO [1, 2, 3, 4, 5, 6, 7, 8] (sSeq (sSet 2 (gLstL (lCons (gMove 1) (lNil)))) (sSeq (sSet 3 (gCall (F__law_hands K A) (faQ [.m 2, .q (qC (.int 8))]))) (sSeq (sSet 4 (gCall (F__law_ties K A) (faQ [.m 2, .q (qV 3)]))) (sSeq (sSet 5 (gMake A.c_Web (F_Web___init__ K A) (faQ [.q (qV 3), .q (qV 4)]))) (sSeq (sSet 6 (gQ (qCall [.r] (F__law_due K A) (aCons (qV 4) (aNil))))) (sSeq (sFor (giRange rng1 (gCons (gQ (qC (.int 2))) (gNil))) (.nm 7) (B0_law K A)) (sIf (gQT (tV (qOp neV (qMeth A.c_Web "ties" [.r] (F_Web_ties K A) (qV 5) aNil) (qCB sortV (aCons (qSumL (qV 6)) (aNil)))))) (sRet (gQ (qC (.bl false)))) (sNext))))))))
noncomputable def F_law (K : PySem.W.Frag) (A : Adr) : Fn := fnF 9 [.r] (sSeq (sFor (giSeq (gQ (qOp addV (qLst (aCons (qC (.int 0)) (aNil))) (qSl slV (qV 0) oNone (oSome (qC (.int 8))))))) (.nm 1) (B1_law K A)) (sRet (gQ (qC (.bl true)))))
theorem ok_law (T : Txt K mg A) {f : Addr} {fd : FuncData} (F : Fun K "law" "law" (top 28) f fd) : FnOk P w K mg base (L2.CX P w) 7 f fd ["_law_script"] (liftF K [.r] (F_law K A)) := fn_okF (k := 6) F sc_law rfl fun cdv AA outer s H E hr =>
  (vss_cons (vs_for (tg := (.nm 1)) (passes_of rfl) rfl (gi_seq (ge_q (qe_op (op_addU) v_add (qe_lst (qa_cons qe_int qa_nil)) (qe_slice sl_U v_sl (qv 0) qo_none (qo_some qe_int))))) (tg_nm (i := 1) sc_law.nd rfl (Or.inl rfl)) (vss_killO (is := [1, 2, 3, 4, 5, 6, 7, 8]) (vss_cons (vs_set (i := 2) sc_law.nd rfl (Or.inl rfl) (ge_lstL (gl_cons (ge_move (i := 1)) gl_nil)))
    (vss_cons (vs_set (i := 3) sc_law.nd rfl (Or.inl rfl) (ge_call (ok__law_hands T) (hr.mono (by decide)) (takes_of rfl rfl rfl rfl) (ca_q (.m 2 (.q qe_int .nil)))))
    (vss_cons (vs_set (i := 4) sc_law.nd rfl (Or.inl rfl) (ge_call (ok__law_ties T) (hr.mono (by decide)) (takes_of rfl rfl rfl rfl) (ca_q (.m 2 (.q (qv 3) .nil)))))
    (vss_cons (vs_set (i := 5) sc_law.nd rfl (Or.inl rfl) (ge_make T.mk_Web T.kp_Web T.m_Web (ok_Web___init__ T) (hr.mono (by decide)) (takes_of rfl rfl rfl rfl) (ca_q (.q (qv 3) (.q (qv 4) .nil)))))
    (vss_cons (vs_set (i := 6) sc_law.nd rfl (Or.inl rfl) (ge_q (qe_call (ok__law_due T) (hr.mono (by decide)) (takes_of rfl rfl rfl rfl) (qa_cons (qv 4) qa_nil))))
    (vss_cons (vs_for (tg := (.nm 7)) (passes_of rfl) rfl (gi_range1 T.b_range (ga_cons (ge_q qe_int) ga_nil)) (tg_nm (i := 7) sc_law.nd rfl (Or.inl rfl)) (vss_killO (is := [7, 8]) (vss_cons (vs_set (i := 8) sc_law.nd rfl (Or.inl rfl) (ge_meth0 T.c_Web (ok_Web_turns T) (hr.mono (by decide)) (takes_of rfl rfl rfl rfl) (cm0_q (.q (qv 5) .nil))))
    (vss_cons (vs_if (gt_q (PW.pt (qw_or (qt_not (qt_val (qe_callB call_isi v_isi T.b_isinstance (by decide +kernel) (qa_cons (qv 8) (qa_cons (qe_ty (n := "list") T.b_list) qa_nil))))) (qw_or1 (qt_cmp (op_neU hr.units) v_ne (qv 8) (qv 6)))))) (vss_one (vs_ret (ge_q qe_bl))) vss_nil)
    (vss_cons (vs_if (gt_q (qt_cmp (op_neU hr.units) v_ne (qv 8) (qe_lst qa_nil))) (vss_one (vs_expr (ge_lmP PySem.F.slot_list_append PySem.F.type_list_append mt_append rm_append (pp_ix (hu1 hr) (pp_nm 8) qe_int) (mq_cons (qe_tup (qa_cons qe_str (qa_cons qe_str qa_nil))) mq_nil)))) vss_nil)
    (vss_one (vs_expr (ge_lm PySem.F.slot_list_append PySem.F.type_list_append mt_append rm_append 8 (gl_cons (ge_q (qe_lst qa_nil)) gl_nil)))))))))
    (vss_one (vs_if (gt_q (qt_cmp (op_neU hr.units) v_ne (qe_meth0 T.c_Web (ok_Web_ties T) (hr.mono (by decide)) (takes_of rfl rfl rfl rfl) (qv 5)) (qe_callB (cr_sortB (hu65 hr)) v_sort T.b_sorted (by decide +kernel) (qa_cons (qe_sumL rfl (qv 6) T.b_sum (by decide +kernel)) qa_nil)))) (vss_one (vs_ret (ge_q qe_bl))) vss_nil))))))))))
    (vss_one (vs_ret (ge_q qe_bl))))

end
end LW
open PySem PySem.Spec PyProof.Rows L2 VL
local macro_rules | `(tactic| push_cast [$ls,*]) => `(tactic| simp -implicitDefEqProofs only [bind_ok, qSumL_ap, qMaxD_ap, maxDK_i, bind_ex, bind_no, pure_ok, pure_ex, pure_no, seqE_ok, seqE_ex, seqE_no, seqS_nx, seqS_rt, seqS_ex, seqS_bk, seqS_ct, seqS_no, sNext_ap, sRetN_ap, sSeq_ap, sDrop_ap, sRet_ap, sSet_ap, sIf_ap, condS_t, condS_f, sKillO_ap, killO_nx, killO_bk, killO_ct, killO_rt, killO_ex, kill_cons, kill_nil, sRaise_ap, sFor_ap, forK_ap, setS_mk, setA_mk, look_mk, lookS_val, lookS_arg, qV_ap, oD_some, lc_mk, lcS_val, lcS_arg, get_s, get_a, rm_s, rm_a, put_s, put_a, view_mk, Sl.view_val, Sl.view_arg, Sl.view_no, wipe_nil, wipe_cons, qC_ap, qOp_ap, qCB_ap, aNil_ap, aCons_ap, tV_ap, tNot_ap, tOr_ap, condT_y, condT_tf, condT_ft, tYes_ap, qNot_ap, qAnd_ap, qOr_ap, condQ_y, condQ_tf, condQ_ft, qTup_ap, qLst_ap, qFld_ap, oNone_ap, oSome_ap, qSl_ap, qLc_ap, iSeq_ap, iRange_ap, qCall_ap, qMeth_ap, gQ_ap, liftO_ok, liftO_ex, gQT_ap, liftT_ok, liftT_ex, gMove_mk, gFz_mk, gOp_ap, gOpK_ap, finG_ok, gNil_ap, gCons_ap, gConsK_ap, lNil_ap, lCons_ap, lConsK_ap, gTupL_ap, gLstL_ap, gSt_ap, gTV_ap, giSeq_ap, giRange_ap, ofOG_some, ofO_some, gCall_ap, gCallK_ap, afterG_rt, afterG_ex, gMake_ap, gMakeK_ap, makeG_rt, makeG_ex, gLm_ap, isLst_ap, gLmK_ap, pNm_ap, pNmK_some, fnF_ap, finF_rt, finF_nx, finF_ex, sSubL_ap, subK_ap, faQ_ap, faQK_some, startP, stS, stA, okA, takeH, evalA, exP, Ag.sl, putH, toB, toI, lenV_ap, lenN_l, lenN_t, addV_i, mulV_i, fdivV_i, modV_i, ltV_i, leV_i, gtV_i, eqV_i, eqV_s, eqV_b, neV_i, neV_s, neV_b, addV_s, addV_l, addV_t, ixV_t, ixV_tk, ixV_l, ixV_s, at_0, at_1, at_2, at_3, ix_0, ix_1, ix_2, decide_true, decide_false, mkTup, mkLst, mkTupG, mkLstG, fAppend, fExtend, fInsert, mkLc, D.free, D.up, D.st, D.view, D.fz, D.mapF, D.mapFL, viewF, fzF, D.noOwn, D.noBor, D.kept, D.allF, D.allFL, ownF, borF, keepF, List.map_cons, List.map_nil, List.length_cons, List.length_nil, List.length_map, List.replicate, List.cons_append, List.nil_append, List.append_nil, List.getElem?_cons_zero, List.getElem?_cons_succ, List.getElem?_nil, List.set_cons_zero, List.set_cons_succ, List.set_nil, Option.bind_some, Option.bind_none, Option.map_some, Option.map_none, id, Nat.zero_add, Nat.reduceAdd, Nat.reduceSub, Nat.sub_self, Nat.sub_zero, if_true, if_false, Bool.false_eq_true, Bool.and_true, Bool.true_and, Bool.not_true, Bool.not_false, and_true, true_and, and_self, reduceCtorEq, ne_eq, not_false_eq_true, sz_le, sz_lt, Nat.reduceLeDiff, ints_all, strs_all, callQ_ap, callK_some, giveQ_nil, giveQ_r, giveQ_k, resQ_rt, resQ_ex, q_str, q_int, q_bl, q_non, q_tup, q_lst, q_dic, q_dit, q_obj, qChain_ap, lenN_s, listV_t, listV_l, listV_d, tupleV_l, lenN_d, ixV_d, slV_l, all_true, ints_mp, strs_mp, fldD_ap, sFldF_ap, rndK_nx, rndK_ct, rndK_bk, rndK_rt, rndK_ex, forV_cons, forV_nil, pIx_ap, pIxK_l, pIxK_t, pIxK_d, gLmP_ap, gLmPK_ok, gLmPK_ex, mqNil_ap, mqCons_ap, Function.comp_apply, Function.comp_id, Function.id_comp, allFK_nil, mapFK_nil, true_or, or_true, or_self, or_false, false_or, Gg.sl, neV_strs, wd_keys, wd_vals, wd_items, put_tp, puts_nil, puts_cons, putK_some, put_nm, dgetD_s, giveQ_s, seeF, D.see, fmQ_ap, fmQK_some, fmQ2_t, $ls,*])
local macro_rules | `(tactic| push_cast only [$ls,*]) => `(tactic| simp -implicitDefEqProofs (disch := first | assumption | omega | rfl) only [bind_ok, qSumL_ap, qMaxD_ap, maxDK_i, bind_ex, bind_no, pure_ok, pure_ex, pure_no, seqE_ok, seqE_ex, seqE_no, seqS_nx, seqS_rt, seqS_ex, seqS_bk, seqS_ct, seqS_no, sNext_ap, sRetN_ap, sSeq_ap, sDrop_ap, sRet_ap, sSet_ap, sIf_ap, condS_t, condS_f, sKillO_ap, killO_nx, killO_bk, killO_ct, killO_rt, killO_ex, kill_cons, kill_nil, sRaise_ap, sFor_ap, forK_ap, setS_mk, setA_mk, look_mk, lookS_val, lookS_arg, qV_ap, oD_some, lc_mk, lcS_val, lcS_arg, get_s, get_a, rm_s, rm_a, put_s, put_a, view_mk, Sl.view_val, Sl.view_arg, Sl.view_no, wipe_nil, wipe_cons, qC_ap, qOp_ap, qCB_ap, aNil_ap, aCons_ap, tV_ap, tNot_ap, tOr_ap, condT_y, condT_tf, condT_ft, tYes_ap, qNot_ap, qAnd_ap, qOr_ap, condQ_y, condQ_tf, condQ_ft, qTup_ap, qLst_ap, qFld_ap, oNone_ap, oSome_ap, qSl_ap, qLc_ap, iSeq_ap, iRange_ap, qCall_ap, qMeth_ap, gQ_ap, liftO_ok, liftO_ex, gQT_ap, liftT_ok, liftT_ex, gMove_mk, gFz_mk, gOp_ap, gOpK_ap, finG_ok, gNil_ap, gCons_ap, gConsK_ap, lNil_ap, lCons_ap, lConsK_ap, gTupL_ap, gLstL_ap, gSt_ap, gTV_ap, giSeq_ap, giRange_ap, ofOG_some, ofO_some, gCall_ap, gCallK_ap, afterG_rt, afterG_ex, gMake_ap, gMakeK_ap, makeG_rt, makeG_ex, gLm_ap, isLst_ap, gLmK_ap, pNm_ap, pNmK_some, fnF_ap, finF_rt, finF_nx, finF_ex, sSubL_ap, subK_ap, faQ_ap, faQK_some, startP, stS, stA, okA, takeH, evalA, exP, Ag.sl, putH, toB, toI, lenV_ap, lenN_l, lenN_t, addV_i, mulV_i, fdivV_i, modV_i, ltV_i, leV_i, gtV_i, eqV_i, eqV_s, eqV_b, neV_i, neV_s, neV_b, addV_s, addV_l, addV_t, ixV_t, ixV_tk, ixV_l, ixV_s, at_0, at_1, at_2, at_3, ix_0, ix_1, ix_2, decide_true, decide_false, mkTup, mkLst, mkTupG, mkLstG, fAppend, fExtend, fInsert, mkLc, D.free, D.up, D.st, D.view, D.fz, D.mapF, D.mapFL, viewF, fzF, D.noOwn, D.noBor, D.kept, D.allF, D.allFL, ownF, borF, keepF, List.map_cons, List.map_nil, List.length_cons, List.length_nil, List.length_map, List.replicate, List.cons_append, List.nil_append, List.append_nil, List.getElem?_cons_zero, List.getElem?_cons_succ, List.getElem?_nil, List.set_cons_zero, List.set_cons_succ, List.set_nil, Option.bind_some, Option.bind_none, Option.map_some, Option.map_none, id, Nat.zero_add, Nat.reduceAdd, Nat.reduceSub, Nat.sub_self, Nat.sub_zero, if_true, if_false, Bool.false_eq_true, Bool.and_true, Bool.true_and, Bool.not_true, Bool.not_false, and_true, true_and, and_self, reduceCtorEq, ne_eq, not_false_eq_true, sz_le, sz_lt, Nat.reduceLeDiff, ints_all, strs_all, callQ_ap, callK_some, giveQ_nil, giveQ_r, giveQ_k, resQ_rt, resQ_ex, q_str, q_int, q_bl, q_non, q_tup, q_lst, q_dic, q_dit, q_obj, qChain_ap, lenN_s, listV_t, listV_l, listV_d, tupleV_l, lenN_d, ixV_d, slV_l, all_true, ints_mp, strs_mp, fldD_ap, sFldF_ap, rndK_nx, rndK_ct, rndK_bk, rndK_rt, rndK_ex, forV_cons, forV_nil, pIx_ap, pIxK_l, pIxK_t, pIxK_d, gLmP_ap, gLmPK_ok, gLmPK_ex, mqNil_ap, mqCons_ap, Function.comp_apply, Function.comp_id, Function.id_comp, allFK_nil, mapFK_nil, true_or, or_true, or_self, or_false, false_or, Gg.sl, neV_strs, wd_keys, wd_vals, wd_items, put_tp, puts_nil, puts_cons, putK_some, put_nm, dgetD_s, giveQ_s, seeF, D.see, fmQ_ap, fmQK_some, fmQ2_t, itemsD, Bool.true_or, Bool.or_true, ints_mp, strs_mp, allV_bls, all_true, sortS_length, inU_strs, decide_eq_true, decide_eq_false, mulOk_l, mulOk_r, divOk_of, List.map_append, List.length_append, $ls,*])
namespace LW
open PySem PySem.Spec PyProof.Rows L2 VL
variable {K : PySem.W.Frag} {A : Adr}
noncomputable def Low (z : Str) : Prop := ∀ c ∈ z.cps.toList, c ∈ ("abcdefghijklmnopqrstuvwxyz" : Str).cps.toList
noncomputable def Nm (z : Str) : Prop := 1 ≤ z.length ∧ z.length ≤ 8 ∧ Low z
theorem f_is_whole {i : Int} : F_is_whole K A [.int i] = .rt (.bl true) [none] := by
  unfold F_is_whole
  push_cast [isi_of (d := .int i) (s := "int") (t := "int") (b := true) rfl rfl, isi_of (d := .int i) (s := "int") (t := "bool") (b := false) rfl rfl]
theorem f_is_within {i lo hi : Int} : F_is_within K A [.int i, .int lo, .int hi] = .rt (.bl (decide (lo ≤ i) && decide (i ≤ hi))) [none, none, none] := by
  unfold F_is_within
  push_cast [f_is_whole]
  by_cases h : lo ≤ i
  · push_cast [decide_eq_true h]
  · push_cast [decide_eq_false h]
    simp
theorem low_all {z : Str} (h : Low z) : (z.cps.toList.map fun c => decide (c ∈ ("abcdefghijklmnopqrstuvwxyz" : Str).cps.toList)).all id = true := by
  rw [List.all_eq_true]
  intro b m
  obtain ⟨c, mc, rfl⟩ := List.mem_map.mp m
  exact decide_eq_true (h c mc)
theorem f_is_name {z : Str} (h : Nm z) : F_is_name K A [.str z] = .rt (.bl true) [none] := by
  obtain ⟨h1, h2, h3⟩ := h
  have cv : compV (.nm 1) tYes (qOp inU (qV 1) (qC k_LETTERS)) ⟨[.val (.str z), .no], [none]⟩ (signsD z) = .ok ((z.cps.toList.map fun c => decide (c ∈ ("abcdefghijklmnopqrstuvwxyz" : Str).cps.toList)).map D.bl) := by
    rw [List.map_map]
    exact compV_map _ fun c m => ⟨_, rfl, rfl, rfl, rfl, rfl⟩
  have z1 : z.length ≤ sizeLine := Nat.le_trans h2 (by decide)
  have z2 : z.cps.toList.length ≤ sizeLine := z1
  unfold F_is_name
  push_cast [isi_of (d := .str z) (s := "str") (t := "str") (b := true) rfl rfl, z1, decide_eq_true (show (1 : Int) ≤ (z.length : Int) by omega), decide_eq_true (show (z.length : Int) ≤ 8 by omega), itemsD, cv, z2, allV_bls, low_all h3]
theorem f_is_hand_row {z : Str} {s : Int} (h : Nm z) (h1 : 1 ≤ s) (h2 : s ≤ 1000) : F_is_hand_row K A [.tup [.str z, .int s]] = .rt (.bl true) [none] := by
  unfold F_is_hand_row
  push_cast [isi_of (d := .tup [.str z, .int s]) (s := "tuple") (t := "tuple") (b := true) rfl rfl, show decide (((2 : Nat) : Int) = 2) = true from rfl, f_is_name h, f_is_within, decide_eq_true h1, decide_eq_true h2]
theorem f_is_pair {x y : Str} (h : Nm x) (h1 : Nm y) : F_is_pair K A [.tup [.str x, .str y]] = .rt (.bl (!decide (x = y))) [none] := by
  unfold F_is_pair
  push_cast [isi_of (d := .tup [.str x, .str y]) (s := "tuple") (t := "tuple") (b := true) rfl rfl, show decide (((2 : Nat) : Int) = 2) = true from rfl, f_is_name h, f_is_name h1]
theorem f_sure : F_sure K A [.bl true] = .rt .non [none] := by
  unfold F_sure
  push_cast []
theorem nm_ok {z : Str} (h : Nm z) : PyData.strOk z = true := by
  unfold PyData.strOk
  rw [← Array.all_toList, List.all_eq_true]
  exact fun c hc => decide_eq_true ((show ∀ c ∈ ("abcdefghijklmnopqrstuvwxyz" : Str).cps.toList, c < 1114112 by decide +kernel) c (h.2.2 c hc))
theorem f_sorted_pair {x y : Str} (h : PyData.strOk x = true) (h1 : PyData.strOk y = true) : F_sorted_pair K A [.tup [.str x, .str y]] = .rt (tupS (sortS [x, y])) [none] := by
  have e := sortV_strs (f := .new) (xs := [x, y]) (by simp [h, h1])
  simp only [List.map_cons, List.map_nil] at e
  unfold F_sorted_pair
  push_cast [listV_t, e, tupleV_l, tupS]
/-- a web's hands as its dict -/
noncomputable abbrev eS (hs : List (Str × Int)) : List (Kd × D) := hs.map fun e => (kS e.1, .int e.2)
theorem pairsD_hs : ∀ hs : List (Str × Int), pairsD (hs.map fun e => D.tup [.str e.1, .int e.2]) = some (eS hs)
  | [] => rfl
  | e :: hs => by simp only [List.map_cons, pairsD, keyK, pairsD_hs hs]
theorem merge_hs : ∀ (hs acc : List (Str × Int)), ((acc ++ hs).map (·.1)).Nodup → mergeD (eS acc) (eS hs) = eS (acc ++ hs)
  | [], acc, _ => by simp [mergeD]
  | e :: hs, acc, h => by
    have hn : ((eS acc).any fun z => decide (z.1 = kS e.1)) = false := by
      rw [List.any_eq_false]
      intro z m
      obtain ⟨e', m', rfl⟩ := List.mem_map.mp m
      simp only [decide_eq_true_eq]
      intro q
      have q2 : e'.1 = e.1 := by simpa using q
      rw [List.map_append, List.nodup_append] at h
      exact h.2.2 e'.1 (List.mem_map_of_mem m') e.1 (by simp) q2
    have p : putD (eS acc) (kS e.1) (.int e.2) = eS (acc ++ [e]) := by
      unfold putD
      rw [if_neg (by rw [hn]; simp)]
      simp
    have ih := merge_hs hs (acc ++ [e]) (by simpa using h)
    show mergeD (putD (eS acc) (kS e.1) (.int e.2)) (eS hs) = _
    rw [p, ih]
    simp
theorem dictV_hs {f : Fl} {hs : List (Str × Int)} (h : (hs.map (·.1)).Nodup) : dictV [.lst f (hs.map fun e => D.tup [.str e.1, .int e.2])] = .ok (.dic .new (eS hs)) := by
  unfold dictV
  simp only [pairsD_hs, Option.map_some, ofO_some]
  have := merge_hs hs [] (by simpa using h)
  simp only [List.map_nil, List.nil_append] at this
  rw [this]
noncomputable abbrev eP (e : Str × Int) : D := .tup [.str e.1, .int e.2]
noncomputable abbrev eH (f : Fl) (hs : List (Str × Int)) : D := .lst f (hs.map eP)
structure HOk (hs : List (Str × Int)) : Prop where
  nd : (hs.map (·.1)).Nodup
  nm : ∀ e ∈ hs, Nm e.1 ∧ 1 ≤ e.2 ∧ e.2 ≤ 1000
theorem eS_all {p : Fl → Bool} : ∀ {hs : List (Str × Int)}, D.allFK p (eS hs) = true
  | [] => rfl
  | e :: hs => by show (true && D.allFK p (eS hs)) = true; rw [eS_all]; rfl
theorem eS_map {g : Fl → Fl} : ∀ {hs : List (Str × Int)}, D.mapFK g (eS hs) = eS hs
  | [] => rfl
  | e :: hs => by show (kS e.1, D.int e.2) :: D.mapFK g (eS hs) = _; rw [eS_map]; rfl
theorem ePs_all {p : Fl → Bool} {hs : List (Str × Int)} : D.allFL p (hs.map eP) = true := allFL_map fun x => rfl
theorem ePs_map {g : Fl → Fl} {hs : List (Str × Int)} : D.mapFL g (hs.map eP) = hs.map eP := mapFL_plain ePs_all
theorem f_strengths_of {hs : List (Str × Int)} (h : HOk hs) (h1 : 1 ≤ hs.length) (h8 : hs.length ≤ 8) : F_strengths_of K A [eH .bor hs] = .rt (.dic .own (eS hs)) [none] := by
  have cv : compV (.nm 2) tYes (qCall [.r] (F_is_hand_row K A) (aCons (qV 2) aNil)) ⟨[.val (eH .bor hs), .no, .no], [none]⟩ (hs.map eP) = .ok ((hs.map fun _ => true).map D.bl) := by
    rw [List.map_map]
    refine compV_map hs fun e m => ⟨_, put_nm, rfl, ?_, rfl, rfl⟩
    obtain ⟨n1, n2, n3⟩ := h.nm e m
    push_cast [f_is_hand_row n1 n2 n3]
  have z1 : hs.length ≤ sizeLine := Nat.le_trans h8 (by decide)
  unfold F_strengths_of
  push_cast [isi_of (d := eH .bor hs) (s := "list") (t := "list") (b := true) rfl rfl, decide_eq_true (show (1 : Int) ≤ (hs.length : Int) by omega), decide_eq_true (show (hs.length : Int) ≤ 8 by omega), f_sure, itemsD, cv, z1, allV_bls, all_true, dictV_hs h.nd, lenN_d, eS_all, D.allFK]
theorem getK_eS {z : Str} : ∀ hs : List (Str × Int), (getK (eS hs) (kS z)).isSome = decide (z ∈ hs.map (·.1))
  | [] => rfl
  | e :: hs => by
    show (getK ((kS e.1, D.int e.2) :: eS hs) (kS z)).isSome = _
    rw [getK]
    by_cases h : e.1 = z
    · subst h; rw [if_pos rfl]; simp
    · rw [if_neg (by simpa using h), getK_eS hs]
      have h2 : ¬ z = e.1 := fun q => h q.symm
      simp [h2]
theorem inU_dict {f : Fl} {z : Str} {hs : List (Str × Int)} : inU (.str z) (.dic f (eS hs)) = .ok (.bl (decide (z ∈ hs.map (·.1)))) := by
  unfold inU inB
  simp only [dgetD, keyK, Option.map_some, getK_eS]
  rfl
noncomputable abbrev eT (e : Str × Str) : D := .tup [.str e.1, .str e.2]
noncomputable def srt (t : Str × Str) : List Str := sortS [t.1, t.2]
structure TOk (hs : List (Str × Int)) (ts : List (Str × Str)) : Prop where
  at' : ∀ t ∈ ts, t.1 ∈ hs.map (·.1) ∧ t.2 ∈ hs.map (·.1) ∧ t.1 ≠ t.2
  nd : (ts.map srt).Nodup
  few : ts.length < 64
theorem srt_two (t : Str × Str) : ∃ a b, srt t = [a, b] ∧ ∀ x, (x = a ∨ x = b) ↔ (x = t.1 ∨ x = t.2) := by
  have pm : (sortS [t.1, t.2]).Perm [t.1, t.2] := List.mergeSort_perm _ _
  have hl := pm.length_eq
  match h : sortS [t.1, t.2], hl with
  | [a, b], _ =>
    refine ⟨a, b, h, fun x => ?_⟩
    have := pm.mem_iff (a := x)
    rw [h] at this
    simpa using this
theorem HOk.mem {hs : List (Str × Int)} (h : HOk hs) {z : Str} (m : z ∈ hs.map (·.1)) : Nm z := by
  obtain ⟨e, me, rfl⟩ := List.mem_map.mp m
  exact (h.nm e me).1
noncomputable def prs (ts : List (Str × Str)) : List (List Str) := sortT (ts.map srt)
theorem tupS_all {p : Fl → Bool} {m : List Str} : (tupS m).allF p = true := by unfold tupS; rw [D.allF]; exact strs_all m
theorem tupSs_all {p : Fl → Bool} {ms : List (List Str)} : D.allFL p (ms.map tupS) = true := allFL_map fun _ => tupS_all
theorem tupSs_map {g : Fl → Fl} {ms : List (List Str)} : D.mapFL g (ms.map tupS) = ms.map tupS := mapFL_plain tupSs_all
theorem tupS_q {m : List Str} : (tupS m).q = tupS m := mapF_plain (show (tupS m).plain = true from tupS_all)
theorem eTs_all {p : Fl → Bool} {ts : List (Str × Str)} : D.allFL p (ts.map eT) = true := allFL_map fun x => rfl
theorem eTs_map {g : Fl → Fl} {ts : List (Str × Str)} : D.mapFL g (ts.map eT) = ts.map eT := mapFL_plain eTs_all
theorem prs_at {hs : List (Str × Int)} {ts : List (Str × Str)} (t : TOk hs ts) {m : List Str} (hm : m ∈ prs ts) : ∃ a b, m = [a, b] ∧ a ∈ hs.map (·.1) ∧ b ∈ hs.map (·.1) := by
  obtain ⟨x, mx, rfl⟩ := List.mem_map.mp (sortT_mem.mp hm)
  obtain ⟨a, b, e, q⟩ := srt_two x
  obtain ⟨h1, h2, _⟩ := t.at' x mx
  refine ⟨a, b, e, ?_, ?_⟩
  · rcases (q a).mp (.inl rfl) with z | z <;> rw [z] <;> assumption
  · rcases (q b).mp (.inr rfl) with z | z <;> rw [z] <;> assumption
theorem f_pairs_of {hs : List (Str × Int)} {ts : List (Str × Str)} (h : HOk hs) (t : TOk hs ts) : F_pairs_of K A [.lst .bor (ts.map eT), .dic .bor (eS hs)] = .rt (.lst .own ((prs ts).map tupS)) [none, none] := by
  have z1 : ts.length ≤ sizeLine := Nat.le_trans (Nat.le_of_lt t.few) (by decide)
  have z2 : (prs ts).length = ts.length := by unfold prs; rw [sortT_length, List.length_map]
  have c1 : compV (.nm 3) tYes (qCall [.r] (F_is_pair K A) (aCons (qV 3) aNil)) ⟨[.val (.lst .bor (ts.map eT)), .val (.dic .bor (eS hs)), .no, .no, .no, .no], [none, none]⟩ (ts.map eT) = .ok ((ts.map fun _ => true).map D.bl) := by
    rw [List.map_map]
    refine compV_map ts fun e m => ⟨_, put_nm, rfl, ?_, rfl, rfl⟩
    obtain ⟨q1, q2, q3⟩ := t.at' e m
    push_cast [f_is_pair (h.mem q1) (h.mem q2), decide_eq_false q3]
  have c2 : compV (.nm 3) tYes (qCall [.r] (F_sorted_pair K A) (aCons (qV 3) aNil)) ⟨[.val (.lst .bor (ts.map eT)), .val (.dic .bor (eS hs)), .no, .no, .no, .no], [none, none]⟩ (ts.map eT) = .ok ((ts.map srt).map tupS) := by
    rw [List.map_map]
    refine compV_map ts fun e m => ⟨_, put_nm, rfl, ?_, rfl, tupS_all⟩
    obtain ⟨q1, q2, q3⟩ := t.at' e m
    push_cast [f_sorted_pair (nm_ok (h.mem q1)) (nm_ok (h.mem q2))]
    exact congrArg Out.ok tupS_q
  have c3 : compV (.tp [.nm 4, .nm 5]) tYes (qAnd (qOp inU (qV 4) (qV 1)) (qOp inU (qV 5) (qV 1))) ⟨[.val (.lst .bor (ts.map eT)), .val (.dic .bor (eS hs)), .val (.lst .own ((prs ts).map tupS)), .no, .no, .no], [none, none]⟩ ((prs ts).map tupS) = .ok (((prs ts).map fun _ => true).map D.bl) := by
    rw [List.map_map]
    refine compV_map _ fun m hm => ?_
    obtain ⟨a, b, rfl, q1, q2⟩ := prs_at t hm
    refine ⟨_, rfl, rfl, ?_, rfl, rfl⟩
    push_cast [inU_dict, decide_eq_true q1, decide_eq_true q2]
  have sv := sortV_tups (f := .new) (ms := ts.map srt) (fun m hm w hw => by
    obtain ⟨e, me, rfl⟩ := List.mem_map.mp hm
    obtain ⟨a, b, e2, q⟩ := srt_two e
    rw [e2] at hw
    have : w = a ∨ w = b := by simpa using hw
    obtain ⟨q1, q2, _⟩ := t.at' e me
    rcases (q w).mp this with z | z <;> rw [z]
    · exact nm_ok (h.mem q1)
    · exact nm_ok (h.mem q2)) (fun m hm => by
    obtain ⟨e, me, rfl⟩ := List.mem_map.mp hm
    obtain ⟨a, b, e2, q⟩ := srt_two e
    rw [e2]; simp)
  have nd : (prs ts).Nodup := sortT_pm.symm.nodup t.nd
  have ls : ∀ ρ : Plc, qV 2 ρ = .ok (.lst .own ((prs ts).map tupS)) → qLenSet (qV 2) ρ = .ok (.int (ts.length : Nat)) := fun ρ e => by
    unfold qLenSet
    rw [e]
    simp only [bind_ok, tupsD_map, Option.bind_some, distinct_id nd, z2, if_pos t.few, ofO_some]
  have ls' := ls ⟨[.val (.lst .bor (ts.map eT)), .val (.dic .bor (eS hs)), .val (.lst .own ((prs ts).map tupS)), .no, .no, .no], [none, none]⟩ rfl
  unfold F_pairs_of
  push_cast [isi_of (d := .lst .bor (ts.map eT)) (s := "list") (t := "list") (b := true) rfl rfl, itemsD, c1, z1, allV_bls, all_true, f_sure, c2, sv, show sortT (ts.map srt) = prs ts from rfl, tupSs_all, c3, z2, ls']
/-! ### the web -/
theorem sp_ne : kS "strong" ≠ kS "pairs" := by decide
noncomputable abbrev webF (f : Fl) (hs : List (Str × Int)) (ts : List (Str × Str)) : List (Kd × D) := [(kS "strong", .dic f (eS hs)), (kS "pairs", .lst f ((prs ts).map tupS))]
noncomputable abbrev eW (f : Fl) (A : Adr) (hs : List (Str × Int)) (ts : List (Str × Str)) : D := .obj f A.c_Web (webF f hs ts)
theorem gS {f : Fl} {hs : List (Str × Int)} {ts : List (Str × Str)} : getK (webF f hs ts) (kS "strong") = some (.dic f (eS hs)) := by simp [getK]
theorem gP {f : Fl} {hs : List (Str × Int)} {ts : List (Str × Str)} : getK (webF f hs ts) (kS "pairs") = some (.lst f ((prs ts).map tupS)) := by
  show getK ((kS "strong", _) :: _) _ = _
  rw [getK, if_neg sp_ne]
  simp [getK]
theorem f_init {hs : List (Str × Int)} {ts : List (Str × Str)} (h : HOk hs) (h1 : 1 ≤ hs.length) (h8 : hs.length ≤ 8) (t : TOk hs ts) : F_Web___init__ K A [.obj .own A.c_Web [], eH .bor hs, .lst .bor (ts.map eT)] = .rt .non [some (eW .own A hs ts), none, none] := by
  have p2 : ∀ d e : D, putFd [(kS "strong", d)] (kS "pairs") e = [(kS "strong", d), (kS "pairs", e)] := fun d e => by
    rw [putFd, if_neg sp_ne]; rfl
  have p1 : ∀ d : D, putFd [] (kS "strong") d = [(kS "strong", d)] := fun d => rfl
  have g1 : ∀ d : D, getK [(kS "strong", d)] (kS "strong") = some d := fun d => by simp [getK]
  unfold F_Web___init__
  push_cast [show (0 : Nat) < 1000 by decide, show (1 : Nat) < 1000 by decide, sFldF_ap, f_strengths_of h h1 h8, fldD_ap, g1, p1, p2, eS_all, eS_map, ePs_all, ePs_map, eTs_all, eTs_map, f_pairs_of h t, tupSs_all, tupSs_map, D.allFK, D.mapFK]
theorem f_ties {hs : List (Str × Int)} {ts : List (Str × Str)} : F_Web_ties K A [eW .bor A hs ts] = .rt (.lst .own ((prs ts).map tupS)) [none] := by
  unfold F_Web_ties
  push_cast [fldD_ap, gP, listV_l, tupSs_all]
theorem prs_ne {hs : List (Str × Int)} {ts : List (Str × Str)} (t : TOk hs ts) {m : List Str} (hm : m ∈ prs ts) : ∃ a b, m = [a, b] ∧ a ≠ b ∧ a ∈ hs.map (·.1) ∧ b ∈ hs.map (·.1) := by
  obtain ⟨x, mx, rfl⟩ := List.mem_map.mp (sortT_mem.mp hm)
  obtain ⟨a, b, e, a1, a2⟩ := prs_at t hm
  refine ⟨a, b, e, fun q => ?_, a1, a2⟩
  obtain ⟨_, _, h3⟩ := t.at' x mx
  obtain ⟨a', b', e', q'⟩ := srt_two x
  rw [e'] at e
  cases e
  subst q
  have := (q' x.1).mpr (.inl rfl)
  have := (q' x.2).mpr (.inr rfl)
  exact h3 (by grind)
theorem prs_ok {hs : List (Str × Int)} {ts : List (Str × Str)} (h : HOk hs) (t : TOk hs ts) : ∀ n ∈ prs ts, ∀ w ∈ n, PyData.strOk w = true := fun n hn w hw => by
  obtain ⟨a, b, rfl, h1, h2⟩ := prs_at t hn
  have : w = a ∨ w = b := by simpa using hw
  rcases this with rfl | rfl
  · exact nm_ok (h.mem h1)
  · exact nm_ok (h.mem h2)
theorem web_view {hs : List (Str × Int)} {ts : List (Str × Str)} {f : Fl} (hf : viewF f = .bor) : D.mapFK viewF (webF f hs ts) = webF .bor hs ts := by
  simp only [webF, D.mapFK, D.mapF, hf, eS_map, tupSs_map]
theorem deq_eT (a b : Str × Str) : deq (eT a) (eT b) = decide (a = b) := by
  simp only [eT, deq_tup, deqL_cons, deqL_nil, deq_str, Bool.and_true]
  rw [Bool.eq_iff_iff]; simp [Prod.ext_iff]
noncomputable abbrev St (st : List Int) : D := .lst .own (st.map D.int)
theorem pre_mod {b x : Int} (hb : 0 < b) : 0 ≤ x % b ∧ x % b < b := ⟨Int.emod_nonneg _ (by omega), Int.emod_lt_of_pos _ hb⟩
/-- the state of the law's draws -/
noncomputable def Good (st : List Int) : Prop := st.length = 1 ∨ st.length = 3
/-- lower letters -/
theorem len26 : ("abcdefghijklmnopqrstuvwxyz" : Str).cps.toList.length = 26 := by decide +kernel
theorem s0 : ("" : Str).length = 0 := by decide +kernel
theorem s0l : ("" : Str).cps.toList = [] := by decide +kernel
theorem len26' : ("abcdefghijklmnopqrstuvwxyz" : Str).length ≤ sizeLine := by decide +kernel
theorem cat_len {x : Str} {c : Nat} : (x ++ (⟨#[c]⟩ : Str)).length = x.length + 1 := by
  show (x.cps ++ #[c]).size = x.cps.size + 1
  simp
theorem cat_low {x : Str} {c : Nat} (h : Low x) (hc : c ∈ ("abcdefghijklmnopqrstuvwxyz" : Str).cps.toList) : Low (x ++ (⟨#[c]⟩ : Str)) := fun d m => by
  have : d ∈ x.cps.toList ++ [c] := by
    have e : (x ++ (⟨#[c]⟩ : Str)).cps = x.cps ++ #[c] := rfl
    rw [e] at m
    simpa using m
  rcases List.mem_append.mp this with m | m
  · exact h d m
  · have : d = c := by simpa using m
    subst this; exact hc
theorem HOk.put {hs : List (Str × Int)} (h : HOk hs) {z : Str} {s : Int} (hz : z ∉ hs.map (·.1)) (nm : Nm z) (h1 : 1 ≤ s) (h2 : s ≤ 1000) (i : Nat) : HOk (hs.take i ++ [(z, s)] ++ hs.drop i) := by
  have p : (hs.take i ++ [(z, s)] ++ hs.drop i).Perm ((z, s) :: hs) := by
    have : (hs.take i ++ [(z, s)] ++ hs.drop i).Perm ([(z, s)] ++ hs.take i ++ hs.drop i) := List.perm_append_comm.append_right _
    rw [List.append_assoc [(z, s)], List.take_append_drop] at this
    exact this
  refine ⟨(p.map _).symm.nodup (by simpa using ⟨by simpa using hz, h.nd⟩), fun e m => ?_⟩
  rcases List.mem_cons.mp (p.subset m) with rfl | m
  · exact ⟨nm, h1, h2⟩
  · exact h.nm e m
noncomputable def Apart (p q : Str × Str) : Prop := p ≠ q ∧ p ≠ (q.2, q.1)
theorem nd_get {ns : List Str} (h : ns.Nodup) {a b : Nat} {x : Str} (ha : ns[a]? = some x) (hb : ns[b]? = some x) : a = b := nd_ix h ha hb
theorem cut_take {α : Type} {xs : List α} {k : Nat} (h : k ≤ xs.length) : cutG xs none (some (0 + (k : Int))) = xs.take k := by
  unfold cutG
  rw [Int.zero_add, HT.sIx_nat, HT.sIx_none, List.drop_zero, Nat.sub_zero, Nat.min_eq_left h]
theorem srt_eq {p q : Str × Str} (e : srt p = srt q) : p = q ∨ p = (q.2, q.1) := by
  have p1 : (srt p).Perm [p.1, p.2] := List.mergeSort_perm _ _
  have p2 : (srt q).Perm [q.1, q.2] := List.mergeSort_perm _ _
  rw [e] at p1
  have pm := p1.symm.trans p2
  obtain ⟨a, b⟩ := p
  obtain ⟨c, d⟩ := q
  simp only at pm
  have h1 : a = c ∨ a = d := by have := pm.subset (List.mem_cons_self (a := a)); simpa using this
  rcases h1 with rfl | rfl
  · have := (List.perm_cons a).mp pm
    have := List.perm_singleton.mp this
    left; simp at this; rw [this]
  · have pm2 := pm.trans (List.Perm.swap a c [])
    have := (List.perm_cons a).mp pm2
    have := List.perm_singleton.mp this
    right; simp at this; rw [this]
end LW

namespace LW
open PySem PySem.Spec PyProof.Rows L2 VL
variable {K : PySem.W.Frag} {A : Adr}
theorem digit3 (a r n b : Int) (hb : 0 < b) (hb2 : b < 2 ^ 64) : ∃ d st', F__law_digit K A [St [a, r, n], .int b] = .rt (.int d) [some (St st'), none] ∧ 0 ≤ d ∧ d < b ∧ st'.length = 3 := by
  unfold F__law_digit
  have m1 : ∀ z : Int, mulOk 7919 z := fun z => mulOk_l (by decide)
  have m2 : ∀ z : Int, mulOk z 48271 := fun z => mulOk_r (by decide)
  have m3 : ∀ z y : Int, mulOk (z % 2147483647) y := fun z y => mulOk_l (by have := pre_mod (b := 2147483647) (x := z) (by decide); omega)
  have d1 : divOk 1009 := divOk_of (by decide) (by decide)
  have d2 : divOk 2003 := divOk_of (by decide) (by decide)
  have p1 : (0 : Int) < 2147483647 := by decide
  have p2 : (0 : Int) < 2147483399 := by decide
  push_cast [show decide (((3 : Nat) : Int) = 1) = false from rfl]
  by_cases ha : a > 0
  · push_cast [decide_eq_true ha, hb, divOk_of hb hb2]
    exact ⟨_, [a / b, r, n], rfl, (pre_mod hb).1, (pre_mod hb).2, rfl⟩
  · push_cast [decide_eq_false ha, m1, m2, m3, p1, p2, d1, d2, hb]
    exact ⟨_, [a, r, n + 1], rfl, (pre_mod hb).1, (pre_mod hb).2, rfl⟩
theorem digit1 (c b : Int) (hb : 0 < b) (hb2 : b < 2 ^ 64) : ∃ d st', F__law_digit K A [St [c], .int b] = .rt (.int d) [some (St st'), none] ∧ 0 ≤ d ∧ d < b ∧ st'.length = 3 := by
  unfold F__law_digit
  have m1 : ∀ z : Int, mulOk 7919 z := fun z => mulOk_l (by decide)
  have m2 : ∀ z : Int, mulOk z 48271 := fun z => mulOk_r (by decide)
  have m3 : ∀ z y : Int, mulOk (z % 2147483647) y := fun z y => mulOk_l (by have := pre_mod (b := 2147483647) (x := z) (by decide); omega)
  have d1 : divOk 1009 := divOk_of (by decide) (by decide)
  have d2 : divOk 2003 := divOk_of (by decide) (by decide)
  have p1 : (0 : Int) < 2147483647 := by decide
  have p2 : (0 : Int) < 2147483399 := by decide
  push_cast [show decide (((1 : Nat) : Int) = 1) = true from rfl, p1]
  by_cases ha : c > 0
  · push_cast [decide_eq_true ha, hb, divOk_of hb hb2]
    exact ⟨_, [c / b, c % 2147483647, 0], rfl, (pre_mod hb).1, (pre_mod hb).2, rfl⟩
  · push_cast [decide_eq_false ha, m1, m2, m3, p1, p2, d1, d2, hb]
    exact ⟨_, [c, c % 2147483647, 0 + 1], rfl, (pre_mod hb).1, (pre_mod hb).2, rfl⟩
theorem digit_ok {st : List Int} {b : Int} (g : Good st) (hb : 0 < b) (hb2 : b < 2 ^ 64) : ∃ d st', F__law_digit K A [St st, .int b] = .rt (.int d) [some (St st'), none] ∧ 0 ≤ d ∧ d < b ∧ Good st' := by
  match st, g with
  | [c], _ =>
    obtain ⟨d, st', h, h1, h2, h3⟩ := digit1 (K := K) (A := A) c b hb hb2
    exact ⟨d, st', h, h1, h2, .inr h3⟩
  | [a, r, n], _ =>
    obtain ⟨d, st', h, h1, h2, h3⟩ := digit3 (K := K) (A := A) a r n b hb hb2
    exact ⟨d, st', h, h1, h2, .inr h3⟩
  | [], g => simp [Good] at g
  | [_, _], g => simp [Good] at g
  | _ :: _ :: _ :: _ :: _, g => simp [Good] at g
theorem name_loop : ∀ (n k : Nat) (z : Str) (st : List Int), Good st → Low z → z.length + n ≤ 8 → ∃ z' st', forV (.nm 2) (B0__law_name K A) ((List.range' k n).map fun i : Nat => D.int (0 + (i : Int))) ⟨[.arg 0, .val (.str z), .no], [some (St st)]⟩ = .nx ⟨[.arg 0, .val (.str z'), .no], [some (St st')]⟩ ∧ Good st' ∧ Low z' ∧ z'.length = z.length + n
  | 0, k, z, st, g, lz, hl => ⟨z, st, rfl, g, lz, rfl⟩
  | n + 1, k, z, st, g, lz, hl => by
    obtain ⟨d, st1, h1, a1, a2, g1⟩ := digit_ok (K := K) (A := A) (b := 26) g (by decide) (by decide)
    obtain ⟨m, rfl⟩ := Int.eq_ofNat_of_zero_le a1
    have hm : m < 26 := by omega
    have hm2 : m < ("abcdefghijklmnopqrstuvwxyz" : Str).cps.toList.length := by rw [len26]; exact hm
    have hat : atI ("abcdefghijklmnopqrstuvwxyz" : Str).cps.toList (m : Int) = some (("abcdefghijklmnopqrstuvwxyz" : Str).cps.toList[m]) := by
      rw [atI_nat hm2]; simp [hm2]
    have hb : B0__law_name K A ⟨[.arg 0, .val (.str z), .val (D.int (0 + (k : Int)))], [some (St st)]⟩ = .nx ⟨[.arg 0, .val (.str (z ++ ⟨#[("abcdefghijklmnopqrstuvwxyz" : Str).cps.toList[m]]⟩)), .no], [some (St st1)]⟩ := by
      unfold B0__law_name
      have hz : z.length + (⟨#[("abcdefghijklmnopqrstuvwxyz" : Str).cps.toList[m]]⟩ : Str).length ≤ sizeLine := Nat.le_trans (show _ ≤ 9 by show z.length + 1 ≤ 9; omega) (by decide)
      push_cast [h1, len26', hat, hz]
    rw [List.range'_succ, List.map_cons, forV_nx put_nm hb]
    obtain ⟨z', st', h, g', l', e'⟩ := name_loop n (k + 1) _ st1 g1 (cat_low lz (List.getElem_mem hm2)) (by rw [cat_len]; omega)
    exact ⟨z', st', h, g', l', by rw [e', cat_len]; omega⟩
theorem name_ok {st : List Int} (g : Good st) : ∃ z st', F__law_name K A [St st] = .rt (.str z) [some (St st')] ∧ Good st' ∧ Nm z := by
  unfold F__law_name
  obtain ⟨d, st1, h1, a1, a2, g1⟩ := digit_ok (K := K) (A := A) (b := 8) g (by decide) (by decide)
  obtain ⟨m, rfl⟩ := Int.eq_ofNat_of_zero_le a1
  have e1 : (1 : Int) + (m : Int) = ((1 + m : Nat) : Int) := by omega
  obtain ⟨z, st2, h2, g2, l2, e2⟩ := name_loop (K := K) (A := A) (1 + m) 0 "" st1 g1 (fun c mc => by rw [s0l] at mc; cases mc) (by rw [s0]; omega)
  have hr : rng1 [.int ((1 + m : Nat) : Int)] = some (rngD 0 (1 + m)) := rng1_ap (by omega)
  push_cast [h1, e1, hr]
  unfold rngD
  rw [List.range_eq_range', h2]
  push_cast []
  exact ⟨z, st2, rfl, g2, by rw [e2, s0]; omega, by rw [e2, s0]; omega, l2⟩
/-! ### hands -/
theorem hands_round {st : List Int} {hs : List (Str × Int)} {most k : D} (g : Good st) (h : HOk hs) (hl : hs.length ≤ 8) : ∃ hs' st', B0__law_hands K A ⟨[.arg 0, .val most, .val (eH .own hs), .val k, .no, .no, .no], [some (St st), none]⟩ = .nx ⟨[.arg 0, .val most, .val (eH .own hs'), .no, .no, .no, .no], [some (St st'), none]⟩ ∧ Good st' ∧ HOk hs' ∧ hs'.length ≤ hs.length + 1 ∧ 1 ≤ hs'.length := by
  obtain ⟨z, st1, h1, g1, nz⟩ := name_ok (K := K) (A := A) g
  have cv : ∀ ρ : Plc, ρ.s.length = 7 → compV (.tp [.nm 6, .nm 5]) tYes (qV 6) ρ (hs.map eP) = .ok ((hs.map (·.1)).map D.str) := fun ρ hρ => by
    rw [List.map_map]
    refine compV_map hs fun e m => ?_
    obtain ⟨s, a⟩ := ρ
    match s, hρ with
    | [x0, x1, x2, x3, x4, x5, x6], _ => exact ⟨_, rfl, rfl, rfl, rfl, rfl⟩
  have lc : (((hs.map (·.1)).map D.str).length ≤ sizeLine) := by simp; exact Nat.le_trans hl (by decide)
  have lc2 : hs.length ≤ sizeLine := Nat.le_trans hl (by decide)
  have c7 : ∀ {s : List Sl} {a : List (Option D)}, s.length = 7 → compV (.tp [.nm 6, .nm 5]) tYes (qV 6) ⟨s, a⟩ (hs.map eP) = .ok ((hs.map (·.1)).map D.str) := fun h => cv _ h
  unfold B0__law_hands
  by_cases hz : z ∈ hs.map (·.1)
  · refine ⟨hs, st1, ?_, g1, h, by omega, by cases hs with
      | nil => simp at hz
      | cons _ _ => simp⟩
    have c7' := c7 (s := [.arg 0, .val most, .val (eH .own hs), .val k, .val (.str z), .no, .no]) (a := [some (St st1), none]) rfl
    push_cast [h1, itemsD, c7', ninU_strs, lc2, decide_eq_true hz]
  · have c7' := c7 (s := [.arg 0, .val most, .val (eH .own hs), .val k, .val (.str z), .no, .no]) (a := [some (St st1), none]) rfl
    obtain ⟨a, st2, h2, a1, a2, g2⟩ := digit_ok (K := K) (A := A) (b := 9) g1 (by decide) (by decide)
    obtain ⟨b, st3, h3, b1, b2, g3⟩ := digit_ok (K := K) (A := A) (b := 1000) g2 (by decide) (by decide)
    obtain ⟨c, st4, h4, c1, c2, g4⟩ := digit_ok (K := K) (A := A) (b := 4) g3 (by decide) (by decide)
    obtain ⟨d, st5, h5, d1, d2, g5⟩ := digit_ok (K := K) (A := A) (b := (hs.length : Int) + 1) g4 (by omega) (by omega)
    obtain ⟨c, rfl⟩ := Int.eq_ofNat_of_zero_le c1
    obtain ⟨d, rfl⟩ := Int.eq_ofNat_of_zero_le d1
    obtain ⟨s, hs4, s1, s2⟩ : ∃ s : Int, atI [D.int 1, .int (1 + a), .int (1 + b), .int 1000] (c : Int) = some (.int s) ∧ 1 ≤ s ∧ s ≤ 1000 := by
      have : c = 0 ∨ c = 1 ∨ c = 2 ∨ c = 3 := by omega
      rcases this with rfl | rfl | rfl | rfl
      · exact ⟨_, at_0, by omega, by omega⟩
      · exact ⟨_, at_1, by omega, by omega⟩
      · exact ⟨_, at_2, by omega, by omega⟩
      · exact ⟨_, at_3, by omega, by omega⟩
    have hi : (hs.length < sizeLine ∧ 0 ≤ (d : Int) ∧ (d : Int) < 2 ^ 63) = True := eq_true ⟨Nat.lt_of_le_of_lt hl (by decide), by omega, by omega⟩
    refine ⟨hs.take d ++ [(z, s)] ++ hs.drop d, st5, ?_, g5, h.put hz nz s1 s2 d, by simp; omega, by simp; omega⟩
    push_cast [h1, itemsD, c7', ninU_strs, lc2, decide_eq_false hz, h2, h3, h4, h5, hs4, hi, ePs_all, ePs_map]
    simp [List.map_take, List.map_drop]
theorem hands_loop {most : D} : ∀ (n k : Nat) (hs : List (Str × Int)) (st : List Int), Good st → HOk hs → hs.length + n ≤ 8 → ∃ hs' st', forV (.nm 3) (B0__law_hands K A) ((List.range' k n).map fun i : Nat => D.int (0 + (i : Int))) ⟨[.arg 0, .val most, .val (eH .own hs), .no, .no, .no, .no], [some (St st), none]⟩ = .nx ⟨[.arg 0, .val most, .val (eH .own hs'), .no, .no, .no, .no], [some (St st'), none]⟩ ∧ Good st' ∧ HOk hs' ∧ hs'.length ≤ hs.length + n ∧ (1 ≤ n → 1 ≤ hs'.length) ∧ (1 ≤ hs.length → 1 ≤ hs'.length)
  | 0, k, hs, st, g, h, hl => ⟨hs, st, rfl, g, h, by omega, fun z => by omega, fun z => z⟩
  | n + 1, k, hs, st, g, h, hl => by
    obtain ⟨hs1, st1, h1, g1, o1, l1, l2⟩ := hands_round (K := K) (A := A) (most := most) (k := .int (0 + (k : Int))) g h (by omega)
    rw [List.range'_succ, List.map_cons, forV_nx put_nm h1]
    obtain ⟨hs2, st2, h2, g2, o2, l3, l4, l5⟩ := hands_loop n (k + 1) hs1 st1 g1 o1 (by omega)
    exact ⟨hs2, st2, h2, g2, o2, by omega, fun _ => l5 l2, fun _ => l5 l2⟩
theorem hands_ok {st : List Int} (g : Good st) : ∃ hs st', F__law_hands K A [St st, .int 8] = .rt (eH .own hs) [some (St st'), none] ∧ Good st' ∧ HOk hs ∧ 1 ≤ hs.length ∧ hs.length ≤ 8 := by
  unfold F__law_hands
  obtain ⟨d, st1, h1, a1, a2, g1⟩ := digit_ok (K := K) (A := A) (b := 8) g (by decide) (by decide)
  obtain ⟨m, rfl⟩ := Int.eq_ofNat_of_zero_le a1
  have e1 : (1 : Int) + (m : Int) = ((1 + m : Nat) : Int) := by omega
  obtain ⟨hs, st2, h2, g2, o2, l1, l2, _⟩ := hands_loop (K := K) (A := A) (most := .int 8) (1 + m) 0 [] st1 g1 ⟨.nil, fun e m => by cases m⟩ (by simp; omega)
  have hr : rng1 [.int ((1 + m : Nat) : Int)] = some (rngD 0 (1 + m)) := rng1_ap (by omega)
  push_cast [h1, e1, hr]
  unfold rngD
  rw [List.range_eq_range', show (D.lst Fl.own []) = eH .own [] from rfl, h2]
  push_cast [ePs_all]
  exact ⟨hs, st2, rfl, g2, o2, l2 (by omega), by simp at l1; omega⟩
/-! ### ties -/
structure TInv (ns : List Str) (k j : Nat) (ts : List (Str × Str)) : Prop where
  at' : ∀ p ∈ ts, ∃ a b x y, b < a ∧ (a < k ∨ (a = k ∧ b < j)) ∧ ns[a]? = some x ∧ ns[b]? = some y ∧ (p = (x, y) ∨ p = (y, x))
  pw : ts.Pairwise Apart
theorem TInv.mono {ns : List Str} {k j k' j' : Nat} {ts : List (Str × Str)} (h : TInv ns k j ts) (hk : k < k' ∨ (k = k' ∧ j ≤ j')) : TInv ns k' j' ts := ⟨fun p m => by
  obtain ⟨a, b, x, y, h1, h2, h3⟩ := h.at' p m
  exact ⟨a, b, x, y, h1, by omega, h3⟩, h.pw⟩
theorem TInv.put {ns : List Str} (nd : ns.Nodup) {k j : Nat} {ts : List (Str × Str)} (h : TInv ns k j ts) (hj : j < k) {x y : Str} (hx : ns[k]? = some x) (hy : ns[j]? = some y) {p : Str × Str} (hp : p = (x, y) ∨ p = (y, x)) (i : Nat) : TInv ns k (j + 1) (ts.take i ++ [p] ++ ts.drop i) := by
  have pm : (ts.take i ++ [p] ++ ts.drop i).Perm (p :: ts) := by
    have : (ts.take i ++ [p] ++ ts.drop i).Perm ([p] ++ ts.take i ++ ts.drop i) := List.perm_append_comm.append_right _
    rw [List.append_assoc [p], List.take_append_drop] at this
    exact this
  have ap : ∀ q ∈ ts, Apart p q := fun q m => by
    obtain ⟨a, b, x', y', h1, h2, h3, h4, h5⟩ := h.at' q m
    have e1 : ¬ (x = x' ∧ y = y') := fun ⟨z1, z2⟩ => by
      subst z1 z2
      have := nd_get nd hx h3
      have := nd_get nd hy h4
      omega
    have e2 : ¬ (x = y' ∧ y = x') := fun ⟨z1, z2⟩ => by
      subst z1 z2
      have := nd_get nd hx h4
      have := nd_get nd hy h3
      omega
    rcases hp with rfl | rfl <;> rcases h5 with rfl | rfl <;> refine ⟨fun z => ?_, fun z => ?_⟩ <;> simp only [Prod.mk.injEq] at z
    · exact e1 z
    · exact e2 z
    · exact e2 z
    · exact e1 z
    · exact e2 ⟨z.2, z.1⟩
    · exact e1 ⟨z.2, z.1⟩
    · exact e1 ⟨z.2, z.1⟩
    · exact e2 ⟨z.2, z.1⟩
  have sym : ∀ {p q : Str × Str}, Apart p q → Apart q p := fun {p q} ⟨z1, z2⟩ => ⟨fun e => z1 e.symm, fun e => z2 (by rw [e])⟩
  refine ⟨fun q m => ?_, pm.symm.pairwise (List.pairwise_cons.mpr ⟨ap, h.pw⟩) sym⟩
  rcases List.mem_cons.mp (pm.subset m) with rfl | m
  · exact ⟨k, j, x, y, hj, .inr ⟨rfl, by omega⟩, hx, hy, hp⟩
  · obtain ⟨a, b, x', y', h1, h2, h3⟩ := h.at' q m
    exact ⟨a, b, x', y', h1, by omega, h3⟩
theorem ties_round {st : List Int} {ns : List Str} {ts : List (Str × Str)} {k j : Nat} {few : Int} {hd : D} {x y : Str} (g : Good st) (nd : ns.Nodup) (h : TInv ns k j ts) (hj : j < k) (hx : ns[k]? = some x) (hy : ns[j]? = some y) (hl : ts.length ≤ 64) :
    ∃ ts' st', B0__law_ties K A ⟨[.arg 0, .val hd, .val (.lst .own (ns.map D.str)), .val (.int few), .val (.lst .own (ts.map eT)), .val (.int (0 + (k : Int))), .val (.str y), .no, .no, .no], [some (St st), none]⟩ = .nx ⟨[.arg 0, .val hd, .val (.lst .own (ns.map D.str)), .val (.int few), .val (.lst .own (ts'.map eT)), .val (.int (0 + (k : Int))), .no, .no, .no, .no], [some (St st'), none]⟩ ∧ Good st' ∧ TInv ns k (j + 1) ts' ∧ ts'.length ≤ ts.length + 1 := by
  obtain ⟨a, st1, h1, a1, a2, g1⟩ := digit_ok (K := K) (A := A) (b := 4) g (by decide) (by decide)
  obtain ⟨c, st2, h2, c1, c2, g2⟩ := digit_ok (K := K) (A := A) (b := 2) g1 (by decide) (by decide)
  obtain ⟨d, st3, h3, d1, d2, g3⟩ := digit_ok (K := K) (A := A) (b := (ts.length : Int) + 1) g2 (by omega) (by omega)
  obtain ⟨c, rfl⟩ := Int.eq_ofNat_of_zero_le c1
  obtain ⟨d, rfl⟩ := Int.eq_ofNat_of_zero_le d1
  have hat : atI (ns.map D.str) (0 + (k : Int)) = some (.str x) := by
    rw [Int.zero_add, atI_nat (by have := (List.getElem?_eq_some_iff.mp hx).1; simpa using this), List.getElem?_map, hx]
    rfl
  obtain ⟨p, hp4, hp⟩ : ∃ p : Str × Str, atI [D.tup [.str x, .str y], .tup [.str y, .str x]] (c : Int) = some (eT p) ∧ (p = (x, y) ∨ p = (y, x)) := by
    have : c = 0 ∨ c = 1 := by omega
    rcases this with rfl | rfl
    · exact ⟨(x, y), at_0, .inl rfl⟩
    · exact ⟨(y, x), at_1, .inr rfl⟩
  unfold B0__law_ties
  by_cases ha : a < few
  · have hi : (ts.length < sizeLine ∧ 0 ≤ (d : Int) ∧ (d : Int) < 2 ^ 63) = True := eq_true ⟨Nat.lt_of_le_of_lt hl (by decide), by omega, by omega⟩
    refine ⟨ts.take d ++ [p] ++ ts.drop d, st3, ?_, g3, h.put nd hj hx hy hp d, by simp; omega⟩
    push_cast [h1, decide_eq_true ha, hat, h2, hp4, h3, hi, strs_mp, eTs_all, eTs_map]
    simp [List.map_take, List.map_drop]
  · refine ⟨ts, st1, ?_, g1, h.mono (.inr ⟨rfl, by omega⟩), by omega⟩
    push_cast [h1, decide_eq_false ha]
theorem ties_in {ns : List Str} {k : Nat} {few : Int} {hd : D} {x : Str} (nd : ns.Nodup) (hk : k < 8) (hx : ns[k]? = some x) : ∀ (n j : Nat) (ts : List (Str × Str)) (st : List Int), j + n = k → Good st → TInv ns k j ts → ts.length + n ≤ 64 → ∃ ts' st', forV (.nm 6) (B0__law_ties K A) (((ns.take k).drop j).map D.str) ⟨[.arg 0, .val hd, .val (.lst .own (ns.map D.str)), .val (.int few), .val (.lst .own (ts.map eT)), .val (.int (0 + (k : Int))), .no, .no, .no, .no], [some (St st), none]⟩ = .nx ⟨[.arg 0, .val hd, .val (.lst .own (ns.map D.str)), .val (.int few), .val (.lst .own (ts'.map eT)), .val (.int (0 + (k : Int))), .no, .no, .no, .no], [some (St st'), none]⟩ ∧ Good st' ∧ TInv ns k k ts' ∧ ts'.length ≤ ts.length + n
  | 0, j, ts, st, e, g, h, hl => by
    have hlk : k < ns.length := (List.getElem?_eq_some_iff.mp hx).1
    rw [List.drop_of_length_le (by simp; omega)]
    exact ⟨ts, st, rfl, g, by rw [show j = k by omega] at h; exact h, by omega⟩
  | n + 1, j, ts, st, e, g, h, hl => by
    have hlk : k < ns.length := (List.getElem?_eq_some_iff.mp hx).1
    have hj : j < (ns.take k).length := by simp; omega
    have hy : ns[j]? = some ((ns.take k)[j]) := by
      rw [List.getElem_take]; simp
    obtain ⟨ts1, st1, h1, g1, i1, l1⟩ := ties_round (K := K) (A := A) (few := few) (hd := hd) g nd h (by omega) hx hy (by omega)
    rw [List.drop_eq_getElem_cons hj, List.map_cons, forV_nx put_nm h1]
    obtain ⟨ts2, st2, h2, g2, i2, l2⟩ := ties_in nd hk hx n (j + 1) ts1 st1 (by omega) g1 i1 (by omega)
    exact ⟨ts2, st2, h2, g2, i2, by omega⟩
theorem ties_row {ns : List Str} {k : Nat} {few : Int} {hd : D} {ts : List (Str × Str)} {st : List Int} (nd : ns.Nodup) (hk : k < 8) (hkn : k < ns.length) (g : Good st) (h : TInv ns k 0 ts) (hl : ts.length + k ≤ 64) :
    ∃ ts' st', B1__law_ties K A ⟨[.arg 0, .val hd, .val (.lst .own (ns.map D.str)), .val (.int few), .val (.lst .own (ts.map eT)), .val (.int (0 + (k : Int))), .no, .no, .no, .no], [some (St st), none]⟩ = .nx ⟨[.arg 0, .val hd, .val (.lst .own (ns.map D.str)), .val (.int few), .val (.lst .own (ts'.map eT)), .no, .no, .no, .no, .no], [some (St st'), none]⟩ ∧ Good st' ∧ TInv ns (k + 1) 0 ts' ∧ ts'.length ≤ ts.length + k := by
  have hx : ns[k]? = some ns[k] := by simp [hkn]
  obtain ⟨ts1, st1, h1, g1, i1, l1⟩ := ties_in (K := K) (A := A) (few := few) (hd := hd) nd hk hx k 0 ts st (by omega) g h hl
  have hc : cutG (ns.map D.str) none (some (0 + (k : Int))) = (ns.take k).map D.str := by rw [cut_take (by simp; omega), List.map_take]
  refine ⟨ts1, st1, ?_, g1, i1.mono (.inl (by omega)), l1⟩
  unfold B1__law_ties
  push_cast [slV_l, hc, strs_mp, itemsD]
  rw [List.drop_zero] at h1
  rw [h1]
  push_cast []
theorem ties_loop {ns : List Str} {few : Int} {hd : D} (nd : ns.Nodup) (h8 : ns.length ≤ 8) : ∀ (n k : Nat) (ts : List (Str × Str)) (st : List Int), k + n = ns.length → Good st → TInv ns k 0 ts → ts.length ≤ 7 * k → ∃ ts' st', forV (.nm 5) (B1__law_ties K A) ((List.range' k n).map fun i : Nat => D.int (0 + (i : Int))) ⟨[.arg 0, .val hd, .val (.lst .own (ns.map D.str)), .val (.int few), .val (.lst .own (ts.map eT)), .no, .no, .no, .no, .no], [some (St st), none]⟩ = .nx ⟨[.arg 0, .val hd, .val (.lst .own (ns.map D.str)), .val (.int few), .val (.lst .own (ts'.map eT)), .no, .no, .no, .no, .no], [some (St st'), none]⟩ ∧ Good st' ∧ TInv ns ns.length 0 ts' ∧ ts'.length ≤ 56
  | 0, k, ts, st, e, g, h, hl => ⟨ts, st, rfl, g, by rw [show k = ns.length by omega] at h; exact h, by omega⟩
  | n + 1, k, ts, st, e, g, h, hl => by
    obtain ⟨ts1, st1, h1, g1, i1, l1⟩ := ties_row (K := K) (A := A) (few := few) (hd := hd) nd (by omega) (by omega) g h (by omega)
    rw [List.range'_succ, List.map_cons, forV_nx put_nm h1]
    exact ties_loop nd h8 n (k + 1) ts1 st1 (by omega) g1 i1 (by omega)
theorem ties_ok {st : List Int} {hs : List (Str × Int)} (g : Good st) (h : HOk hs) (h8 : hs.length ≤ 8) : ∃ ts st', F__law_ties K A [St st, eH .bor hs] = .rt (.lst .own (ts.map eT)) [some (St st'), none] ∧ Good st' ∧ TInv (hs.map (·.1)) hs.length 0 ts ∧ ts.length ≤ 56 := by
  obtain ⟨few, st1, h1, a1, a2, g1⟩ := digit_ok (K := K) (A := A) (b := 3) g (by decide) (by decide)
  obtain ⟨ts, st2, h2, g2, i2, l2⟩ := ties_loop (K := K) (A := A) (few := 1 + few) (hd := eH .bor hs) h.nd (by simpa using h8) hs.length 0 [] st1 (by simp) g1 ⟨(fun p m => by cases m), List.Pairwise.nil⟩ (by simp)
  have cv : ∀ ρ : Plc, ρ.s.length = 10 → compV (.tp [.nm 8, .nm 9]) tYes (qV 8) ρ (hs.map eP) = .ok ((hs.map (·.1)).map D.str) := fun ρ hρ => by
    rw [List.map_map]
    refine compV_map hs fun e m => ?_
    obtain ⟨s, a⟩ := ρ
    match s, hρ with
    | [x0, x1, x2, x3, x4, x5, x6, x7, x8, x9], _ => exact ⟨_, rfl, rfl, rfl, rfl, rfl⟩
  have c10 := cv ⟨[.arg 0, .val (eH .bor hs), .no, .no, .no, .no, .no, .no, .no, .no], [some (St st), none]⟩ rfl
  have lc : hs.length ≤ sizeLine := Nat.le_trans h8 (by decide)
  have hr : rng1 [.int (hs.length : Int)] = some (rngD 0 hs.length) := rng1_ap (by omega)
  unfold F__law_ties
  push_cast [itemsD, c10, lc, h1, hr]
  unfold rngD
  rw [List.range_eq_range', show (D.lst Fl.own []) = .lst .own (([] : List (Str × Str)).map eT) from rfl, h2]
  push_cast [eTs_all]
  exact ⟨ts, st2, rfl, g2, by simpa using i2, l2⟩

theorem tok_of {hs : List (Str × Int)} {ts : List (Str × Str)} {k : Nat} (h : HOk hs) (i : TInv (hs.map (·.1)) k 0 ts) (hl : ts.length ≤ 56) : TOk hs ts where
  at' := fun t m => by
    obtain ⟨a, b, x, y, h1, _, h3, h4, h5⟩ := i.at' t m
    have ne : x ≠ y := fun e => by
      subst e
      have := nd_get h.nd h3 h4
      omega
    have mx : x ∈ hs.map (·.1) := List.mem_of_getElem? h3
    have my : y ∈ hs.map (·.1) := List.mem_of_getElem? h4
    rcases h5 with rfl | rfl
    · exact ⟨mx, my, ne⟩
    · exact ⟨my, mx, fun e => ne e.symm⟩
  nd := by
    rw [List.Nodup, List.pairwise_map]
    exact i.pw.imp fun {p q} ap e => (srt_eq e).elim ap.1 ap.2
  few := by omega

end LW

namespace LW
open PySem PySem.Spec PyProof.Rows L2 VL
variable {K : PySem.W.Frag} {A : Adr}
theorem allFL_app {p : Fl → Bool} {xs ys : List D} : D.allFL p (xs ++ ys) = (D.allFL p xs && D.allFL p ys) := by rw [allFL_eq, allFL_eq, allFL_eq, List.all_append]
theorem mapFL_app {g : Fl → Fl} {xs ys : List D} : D.mapFL g (xs ++ ys) = D.mapFL g xs ++ D.mapFL g ys := by rw [mapFL_eq, mapFL_eq, mapFL_eq, List.map_append]
section
variable {hs : List (Str × Int)} {ts : List (Str × Str)}
/-! ### ties as pairs -/
noncomputable def prP (ts : List (Str × Str)) : List (Str × Str) := (prs ts).map fun m => (m.getD 0 "", m.getD 1 "")
theorem prP_eT (t : TOk hs ts) : (prs ts).map tupS = (prP ts).map eT := by
  unfold prP
  rw [List.map_map]
  apply List.map_congr_left
  intro m hm
  obtain ⟨a, b, rfl, _⟩ := prs_ne t hm
  rfl
theorem prP_at (t : TOk hs ts) {p : Str × Str} (h : p ∈ prP ts) : p.1 ∈ hs.map (·.1) ∧ p.2 ∈ hs.map (·.1) ∧ p.1 ≠ p.2 ∧ [p.1, p.2] ∈ prs ts := by
  obtain ⟨m, hm, rfl⟩ := List.mem_map.mp h
  obtain ⟨a, b, rfl, h1, h2, h3⟩ := prs_ne t hm
  exact ⟨h2, h3, h1, hm⟩
theorem prP_len : (prP ts).length = ts.length := by unfold prP prs; rw [List.length_map, sortT_length, List.length_map]
/-! ### rows of turns -/
noncomputable abbrev Row := List (Str × Str)
noncomputable abbrev eRow (f : Fl) (r : Row) : D := .lst f (r.map eT)
noncomputable def meets (p q : Str × Str) : Bool := decide (p.1 = q.1 ∨ p.1 = q.2) || decide (p.2 = q.1 ∨ p.2 = q.2)
noncomputable def freeR (p : Str × Str) (r : Row) : Bool := !(r.any (meets p))
noncomputable def putTry (p : Str × Str) : List Row → Option (List Row)
  | [] => none
  | r :: rs => if freeR p r = true then some ((r ++ [p]) :: rs) else (putTry p rs).map (r :: ·)
noncomputable def putRow (p : Str × Str) (rs : List Row) : List Row := (putTry p rs).getD (rs ++ [[p]])
noncomputable def rowsOf (ps : List (Str × Str)) : List Row := ps.foldl (fun rs p => putRow p rs) []
theorem inU_tup2 {z a b : Str} : inU (.str z) (.tup [.str a, .str b]) = .ok (.bl (decide (z = a ∨ z = b))) := by
  unfold inU inB
  have e : flatDs [D.str a, .str b] = flatDs ([a, b].map D.str) := rfl
  simp only [flatD]
  rw [e, flatDs_strs]
  simp only [inV_strs]
  simp [outB]
theorem anyV_bls {f : Fl} {bs : List Bool} : anyV [.lst f (bs.map D.bl)] = .ok (.bl (bs.any id)) := by
  unfold anyV
  simp only [blsD_map, Option.map_some, ofO_some]
theorem put_body {p : Str × Str} {r : Row} {o1 : Option D} {x0 : Sl} (hr : r.length ≤ 64) :
    B0_put_into_row K A ⟨[.arg 0, .val (eT p), .arg 2, .no], [none, o1, some (eRow .own r)]⟩ = if freeR p r = true then .rt .non ⟨[.arg 0, .val (eT p), .arg 2, .no], [none, o1, some (eRow .own (r ++ [p]))]⟩ else .nx ⟨[.arg 0, .val (eT p), .no, .no], [none, o1, some (eRow .own r)]⟩ := by
  have c1 : compV (.nm 3) tYes (qOr (qOp inU (qOp ixV (qV 1) (qC (.int 0))) (qV 3)) (qOp inU (qOp ixV (qV 1) (qC (.int 1))) (qV 3))) ⟨[.arg 0, .val (eT p), .arg 2, .no], [none, o1, some (eRow .own r)]⟩ (r.map eT) = .ok ((r.map (meets p)).map D.bl) := by
    rw [List.map_map]
    refine compV_map _ fun q mq => ⟨_, put_nm, rfl, ?_, rfl, rfl⟩
    by_cases e : p.1 = q.1 ∨ p.1 = q.2
    · push_cast only [eS_all, eS_map, gS, gP, eTs_all, eTs_map, ePs_all, ePs_map, tupSs_all, tupSs_map, tupS_all, tupS_q, f_is_name, f_is_within, f_sure, f_ties, allFL_app, mapFL_app, inU_tup2, decide_eq_true e]
      simp [meets, e]
    · push_cast only [eS_all, eS_map, gS, gP, eTs_all, eTs_map, ePs_all, ePs_map, tupSs_all, tupSs_map, tupS_all, tupS_q, f_is_name, f_is_within, f_sure, f_ties, allFL_app, mapFL_app, inU_tup2, decide_eq_false e]
      simp [meets, e]
  have z1 : r.length ≤ sizeLine := Nat.le_trans hr (by decide)
  have z2 : r.length < sizeLine := Nat.lt_of_le_of_lt hr (by decide)
  unfold B0_put_into_row
  cases e : freeR p r with
  | true =>
    have e2 : (r.map (meets p)).any id = false := by
      unfold freeR at e
      rw [List.any_map]
      simpa using e
    push_cast only [eS_all, eS_map, gS, gP, eTs_all, eTs_map, ePs_all, ePs_map, tupSs_all, tupSs_map, tupS_all, tupS_q, f_is_name, f_is_within, f_sure, f_ties, allFL_app, mapFL_app, itemsD, c1, z1, anyV_bls, e2, z2]
    simp
  | false =>
    have e2 : (r.map (meets p)).any id = true := by
      unfold freeR at e
      rw [List.any_map]
      simpa using e
    push_cast only [eS_all, eS_map, gS, gP, eTs_all, eTs_map, ePs_all, ePs_map, tupSs_all, tupSs_map, tupS_all, tupS_q, f_is_name, f_is_within, f_sure, f_ties, allFL_app, mapFL_app, itemsD, c1, z1, anyV_bls, e2]
theorem put_loop {p : Str × Str} {o1 : Option D} : ∀ (td dn : List Row), (∀ r ∈ td, r.length ≤ 64) →
    forA 0 2 (B0_put_into_row K A) (dn.map (eRow .own)) (td.map (eRow .own)) ⟨[.arg 0, .val (eT p), .no, .no], [none, o1]⟩ = (match putTry p td with
      | some td' => .rt .non ⟨[.arg 0, .val (eT p), .no, .no], [some (.lst .own ((dn ++ td').map (eRow .own))), o1]⟩
      | none => .nx ⟨[.arg 0, .val (eT p), .no, .no], [some (.lst .own ((dn ++ td).map (eRow .own))), o1]⟩)
  | [], dn, _ => by
    rw [List.append_nil]
    rfl
  | r :: td, dn, hl => by
    have ih := put_loop (p := p) (o1 := o1) td (dn ++ [r]) fun x m => hl x (by simp [m])
    rw [List.map_cons, forA_cons]
    show rndA _ _ 2 2 (B0_put_into_row K A ⟨[.arg 0, .val (eT p), .arg 2, .no], [none, o1, some (eRow .own r)]⟩) = _
    rw [put_body (x0 := .no) (hl r (by simp))]
    cases e : freeR p r with
    | true =>
      rw [if_pos rfl]
      simp only [putTry, e, if_true]
      show OS.rt .non ⟨[.arg 0, .val (eT p), .no, .no], [some (.lst .own (dn.map (eRow .own) ++ eRow .own (r ++ [p]) :: td.map (eRow .own))), o1]⟩ = _
      rw [List.map_append, List.map_cons]
    | false =>
      rw [if_neg (by simp)]
      simp only [putTry, e, Bool.false_eq_true, if_false]
      show forA 0 2 (B0_put_into_row K A) (dn.map (eRow .own) ++ [eRow .own r]) (td.map (eRow .own)) ⟨[.arg 0, .val (eT p), .no, .no], [none, o1]⟩ = _
      have e1 : dn.map (eRow .own) ++ [eRow .own r] = (dn ++ [r]).map (eRow .own) := by rw [List.map_append]; rfl
      rw [e1, ih]
      cases putTry p td with
      | none => simp
      | some td' => simp
theorem rows_all {q : Fl → Bool} {f : Fl} {rows : List Row} (h : q f = true) : D.allFL q (rows.map (eRow f)) = true := allFL_map fun r => by
  show (q f && D.allFL q (r.map eT)) = true
  rw [h, eTs_all]; rfl
theorem rows_map {g : Fl → Fl} {f : Fl} : ∀ {rows : List Row}, D.mapFL g (rows.map (eRow f)) = rows.map (eRow (g f))
  | [] => rfl
  | r :: rows => by
    show D.lst (g f) (D.mapFL g (r.map eT)) :: D.mapFL g (rows.map (eRow f)) = _
    rw [rows_map, eTs_map]; rfl
theorem f_put {p : Str × Str} {rows : List Row} (hl : ∀ r ∈ rows, r.length ≤ 64) (hr : rows.length ≤ 1000) : F_put_into_row K A [.lst .own (rows.map (eRow .own)), eT p] = .rt .non [some (.lst .own ((putRow p rows).map (eRow .own))), none] := by
  have lp := put_loop (K := K) (A := A) (p := p) (o1 := none) rows [] hl
  have z : rows.length < sizeLine := Nat.lt_of_le_of_lt hr (by decide)
  rw [List.map_nil] at lp
  unfold F_put_into_row putRow
  cases e : putTry p rows with
  | some td' =>
    rw [e] at lp
    simp only [List.nil_append] at lp
    push_cast only [eS_all, eS_map, gS, gP, eTs_all, eTs_map, ePs_all, ePs_map, tupSs_all, tupSs_map, tupS_all, tupS_q, f_is_name, f_is_within, f_sure, f_ties, allFL_app, mapFL_app, sForA_ap, forAK_arg, forAK2_own, lp, rows_all (q := borF) (f := .own) rfl]
    rfl
  | none =>
    rw [e] at lp
    simp only [List.nil_append] at lp
    push_cast only [eS_all, eS_map, gS, gP, eTs_all, eTs_map, ePs_all, ePs_map, tupSs_all, tupSs_map, tupS_all, tupS_q, f_is_name, f_is_within, f_sure, f_ties, allFL_app, mapFL_app, sForA_ap, forAK_arg, forAK2_own, lp, z, rows_all (q := borF) (f := .own) rfl]
    simp
structure RwOk (n : Nat) (qs : List (Str × Str)) (rows : List Row) : Prop where
  len : rows.length ≤ n
  row : ∀ r ∈ rows, r.length ≤ n ∧ ∀ p ∈ r, p ∈ qs
theorem putTry_ok {n : Nat} {qs : List (Str × Str)} {p : Str × Str} (hp : p ∈ qs) : ∀ {rows rows' : List Row}, putTry p rows = some rows' → (∀ r ∈ rows, r.length ≤ n ∧ ∀ q ∈ r, q ∈ qs) → rows'.length = rows.length ∧ ∀ r ∈ rows', r.length ≤ n + 1 ∧ ∀ q ∈ r, q ∈ qs
  | [], _, e, _ => by cases e
  | r :: rows, rows', e, h => by
    simp only [putTry] at e
    split at e
    · cases e
      refine ⟨rfl, fun x m => ?_⟩
      rcases List.mem_cons.mp m with rfl | m
      · obtain ⟨h1, h2⟩ := h r (by simp)
        refine ⟨by simp; omega, fun q mq => ?_⟩
        rcases List.mem_append.mp mq with mq | mq
        · exact h2 q mq
        · have : q = p := by simpa using mq
          rw [this]; exact hp
      · obtain ⟨h1, h2⟩ := h x (by simp [m])
        exact ⟨by omega, h2⟩
    · obtain ⟨rs, e1, rfl⟩ := Option.map_eq_some_iff.mp e
      obtain ⟨k1, k2⟩ := putTry_ok hp e1 fun x m => h x (by simp [m])
      refine ⟨by simp [k1], fun x m => ?_⟩
      rcases List.mem_cons.mp m with rfl | m
      · obtain ⟨h1, h2⟩ := h x (by simp)
        exact ⟨by omega, h2⟩
      · exact k2 x m
theorem putRow_ok {n : Nat} {qs : List (Str × Str)} {p : Str × Str} {rows : List Row} (hp : p ∈ qs) (h : RwOk n qs rows) : RwOk (n + 1) qs (putRow p rows) := by
  unfold putRow
  cases e : putTry p rows with
  | some rows' =>
    obtain ⟨k1, k2⟩ := putTry_ok hp e h.row
    exact ⟨by simp [k1]; have := h.len; omega, k2⟩
  | none =>
    refine ⟨by simp; exact h.len, fun x m => ?_⟩
    rcases List.mem_append.mp m with m | m
    · obtain ⟨h1, h2⟩ := h.row x m
      exact ⟨by omega, h2⟩
    · have : x = [p] := by simpa using m
      subst this
      refine ⟨by simp, fun q mq => ?_⟩
      have : q = p := by simpa using mq
      rw [this]; exact hp
theorem turns_loop {w : D} {o1 : Option D} {qs : List (Str × Str)} : ∀ (td : List (Str × Str)) (rows : List Row) (n : Nat), (∀ p ∈ td, p ∈ qs) → RwOk n qs rows → n + td.length ≤ 64 →
    forV (.nm 2) (B0_Web_turns K A) (td.map eT) ⟨[.val w, .val (.lst .own (rows.map (eRow .own))), .no], [o1]⟩ = .nx ⟨[.val w, .val (.lst .own ((td.foldl (fun rs p => putRow p rs) rows).map (eRow .own))), .no], [o1]⟩ ∧ RwOk (n + td.length) qs (td.foldl (fun rs p => putRow p rs) rows)
  | [], rows, n, _, h, _ => ⟨rfl, h⟩
  | p :: td, rows, n, hm, h, hl => by
    simp only [List.length_cons] at hl
    have rd : B0_Web_turns K A ⟨[.val w, .val (.lst .own (rows.map (eRow .own))), .val (eT p)], [o1]⟩ = .nx ⟨[.val w, .val (.lst .own ((putRow p rows).map (eRow .own))), .no], [o1]⟩ := by
      have fp := f_put (K := K) (A := A) (p := p) (rows := rows) (fun r m => Nat.le_trans (h.row r m).1 (by omega)) (Nat.le_trans h.len (by omega))
      unfold B0_Web_turns
      push_cast only [eS_all, eS_map, gS, gP, eTs_all, eTs_map, ePs_all, ePs_map, tupSs_all, tupSs_map, tupS_all, tupS_q, f_is_name, f_is_within, f_sure, f_ties, allFL_app, mapFL_app, fp, rows_all (q := borF) (f := .own) rfl]
    obtain ⟨l1, l2⟩ := turns_loop (w := w) (o1 := o1) td (putRow p rows) (n + 1) (fun x m => hm x (by simp [m])) (putRow_ok (hm p (by simp)) h) (by omega)
    rw [List.map_cons, forV_nx put_nm rd, l1]
    refine ⟨rfl, ?_⟩
    rw [List.length_cons, show n + (td.length + 1) = n + 1 + td.length by omega]
    exact l2
theorem rows_inv {qs : List (Str × Str)} : ∀ (td : List (Str × Str)) (rows : List Row) (n : Nat), (∀ p ∈ td, p ∈ qs) → RwOk n qs rows → RwOk (n + td.length) qs (td.foldl (fun rs p => putRow p rs) rows)
  | [], rows, n, _, h => h
  | p :: td, rows, n, hm, h => by
    have := rows_inv td (putRow p rows) (n + 1) (fun x m => hm x (by simp [m])) (putRow_ok (hm p (by simp)) h)
    rw [List.length_cons, show n + (td.length + 1) = n + 1 + td.length by omega]
    exact this
theorem rows_ok (t : TOk hs ts) : RwOk 64 (prP ts) (rowsOf (prP ts)) := by
  have hl := t.few
  have := rows_inv (qs := prP ts) (prP ts) [] 0 (fun p m => m) ⟨by simp, fun r m => by cases m⟩
  exact ⟨Nat.le_trans this.len (by rw [prP_len]; omega), fun r m => ⟨Nat.le_trans (this.row r m).1 (by rw [prP_len]; omega), (this.row r m).2⟩⟩
theorem f_turns (t : TOk hs ts) : F_Web_turns K A [eW .bor A hs ts] = .rt (.lst .own ((rowsOf (prP ts)).map (eRow .own))) [none] := by
  have hl := t.few
  have lp := (turns_loop (K := K) (A := A) (w := eW .bor A hs ts) (o1 := none) (qs := prP ts) (prP ts) [] 0 (fun p m => m) ⟨by simp, fun r m => by cases m⟩ (by rw [prP_len]; omega)).1
  rw [List.map_nil] at lp
  unfold F_Web_turns
  push_cast only [eS_all, eS_map, gS, gP, eTs_all, eTs_map, ePs_all, ePs_map, tupSs_all, tupSs_map, tupS_all, tupS_q, f_is_name, f_is_within, f_sure, f_ties, allFL_app, mapFL_app, fldD_ap, gP, itemsD, prP_eT t, lp, rows_all (q := borF) (f := .own) rfl]
  rfl
end
end LW

namespace LW
open PySem PySem.Spec PyProof.Rows L2 VL
variable {K : PySem.W.Frag} {A : Adr}
theorem eqv_str {x y : Str} : PyData.eqv (.str x) (.str y) = decide (x = y) := deq_str (i := x) (j := y)
theorem dl_str {x y : Str} : PySem.W.dataLt (.str x) (.str y) = !leS y x := by
  have := congrFun (congrFun (PySem.W.dataLe_str (fun s : Str => s)) y) x
  have e : leS y x = !PySem.W.dataLt (.str x) (.str y) := rfl
  rw [e, Bool.not_not]
theorem leT_two {a b c d : Str} : leT [a, b] [c, d] = if c = a then (if d = b then true else leS b d) else leS a c := by
  show (!PySem.W.dataLt (.tuple [.str c, .str d]) (.tuple [.str a, .str b])) = _
  rw [PySem.W.dataLt_pair (by simp [PySem.W.alike]) (by simp [PySem.W.alike]), eqv_str, eqv_str, dl_str, dl_str]
  by_cases h1 : c = a
  · rw [if_pos (by simpa using h1), if_pos h1]
    by_cases h2 : d = b
    · rw [if_pos (by simpa using h2), if_pos h2]; rfl
    · rw [if_neg (by simpa using h2), if_neg h2, Bool.not_not]
  · rw [if_neg (by simpa using h1), if_neg h1, Bool.not_not]
theorem leT_anti {a b c d : Str} (h : leT [a, b] [c, d] = true) (h2 : leT [c, d] [a, b] = true) : [a, b] = [c, d] := by
  rw [leT_two] at h h2
  by_cases q : c = a
  · subst q
    rw [if_pos rfl] at h h2
    by_cases q2 : d = b
    · rw [q2]
    · rw [if_neg q2] at h
      rw [if_neg (fun z => q2 z.symm)] at h2
      rw [leS_anti h h2]
  · rw [if_neg q] at h
    rw [if_neg (fun z => q z.symm)] at h2
    exact absurd (leS_anti h2 h) q
theorem leT_totW : PySem.W.TotalLe leT := by
  show PySem.W.TotalLe (PySem.W.dataLe false (fun m : List Str => D.pd (tupS m)))
  unfold PySem.W.dataLe
  exact PySem.W.sortLe_total _ _ _

theorem sortT_perm2 {xs ys : List (List Str)} (hx : ∀ m ∈ xs, ∃ a b, m = [a, b]) (hy : ∀ m ∈ ys, ∃ a b, m = [a, b]) (p : xs.Perm ys) : sortT xs = sortT ys := by
  have pw : ∀ {zs : List (List Str)}, (sortT zs).Pairwise fun a b => leT a b = true := fun {zs} => List.pairwise_mergeSort leT_totW.trans (fun a b => by rw [Bool.or_eq_true]; exact leT_totW.total a b) _
  refine List.Perm.eq_of_pairwise (le := fun a b => leT a b = true) (fun x y mx my h1 h2 => ?_) pw pw ((sortT_pm.trans p).trans sortT_pm.symm)
  obtain ⟨a, b, rfl⟩ := hx x (sortT_mem.mp mx)
  obtain ⟨c, d, rfl⟩ := hy y (sortT_mem.mp my)
  exact leT_anti h1 h2
/-! ### the law's own placing -/
noncomputable abbrev Pl := List ((Str × Str) × Nat)
noncomputable abbrev ePl (e : (Str × Str) × Nat) : D := .tup [eT e.1, .int (e.2 : Int)]
noncomputable def takenOf (pl : Pl) (p : Str × Str) : List Nat := (pl.filter fun e => meets p e.1).map (·.2)
/-- who stands in row k -/
noncomputable def inRow (pl : Pl) (k : Nat) : Row := (pl.filter fun e => decide (e.2 = k)).map (·.1)
structure PInv (pl : Pl) (rows : List Row) : Prop where
  lt : ∀ e ∈ pl, e.2 < rows.length
  row : ∀ k, k < rows.length → rows[k]? = some (inRow pl k)
  some' : ∀ k, k < rows.length → ∃ e ∈ pl, e.2 = k
theorem taken_iff {pl : Pl} {rows : List Row} (h : PInv pl rows) {p : Str × Str} {k : Nat} : k ∈ takenOf pl p ↔ ∃ r, rows[k]? = some r ∧ freeR p r = false := by
  unfold takenOf
  simp only [List.mem_map, List.mem_filter]
  constructor
  · rintro ⟨e, ⟨m, q⟩, rfl⟩
    refine ⟨_, h.row _ (h.lt e m), ?_⟩
    unfold freeR
    rw [Bool.not_eq_false', List.any_eq_true]
    exact ⟨e.1, List.mem_map.mpr ⟨e, List.mem_filter.mpr ⟨m, by simp⟩, rfl⟩, q⟩
  · rintro ⟨r, e, f⟩
    have lt := (List.getElem?_eq_some_iff.mp e).1
    rw [h.row k lt] at e
    cases e
    unfold freeR at f
    rw [Bool.not_eq_false', List.any_eq_true] at f
    obtain ⟨q, mq, c⟩ := f
    obtain ⟨e, me, rfl⟩ := List.mem_map.mp mq
    obtain ⟨m1, m2⟩ := List.mem_filter.mp me
    exact ⟨e, ⟨m1, c⟩, by simpa using m2⟩
theorem putRow_idx {p : Str × Str} : ∀ {rows : List Row}, putTry p rows = if h : rows.findIdx (freeR p) < rows.length then some (rows.set (rows.findIdx (freeR p)) (rows[rows.findIdx (freeR p)] ++ [p])) else none
  | [] => rfl
  | r :: rows => by
    have ih := putRow_idx (p := p) (rows := rows)
    rw [putTry]
    cases e : freeR p r with
    | true =>
      have e0 : (r :: rows).findIdx (freeR p) = 0 := by rw [List.findIdx_cons, e]; rfl
      rw [if_pos rfl, dif_pos (by rw [e0]; simp)]
      simp [e0]
    | false =>
      have e0 : (r :: rows).findIdx (freeR p) = rows.findIdx (freeR p) + 1 := by rw [List.findIdx_cons, e]; rfl
      rw [if_neg (by simp), ih]
      by_cases h : rows.findIdx (freeR p) < rows.length
      · rw [dif_pos h, dif_pos (by rw [e0]; simpa using h)]
        simp [e0]
      · rw [dif_neg h, dif_neg (by rw [e0]; simpa using h)]
        rfl
theorem inRow_put {pl : Pl} {p : Str × Str} {i k : Nat} : inRow (pl ++ [(p, i)]) k = inRow pl k ++ (if i = k then [p] else []) := by
  unfold inRow
  rw [List.filter_append, List.map_append]
  congr 1
  by_cases h : i = k <;> simp [h]
theorem pinv_put {pl : Pl} {rows : List Row} (h : PInv pl rows) (p : Str × Str) : PInv (pl ++ [(p, rows.findIdx (freeR p))]) (putRow p rows) := by
  have fl := List.findIdx_le_length (p := freeR p) (xs := rows)
  unfold putRow
  rw [putRow_idx]
  by_cases c : rows.findIdx (freeR p) < rows.length
  · rw [dif_pos c]
    have er : rows[rows.findIdx (freeR p)] = inRow pl (rows.findIdx (freeR p)) := by
      have := h.row _ c
      rw [List.getElem?_eq_getElem c] at this
      exact Option.some.inj this
    rw [er]
    generalize rows.findIdx (freeR p) = i at c ⊢
    simp only [Option.getD_some]
    refine ⟨fun e m => ?_, fun k hk => ?_, fun k hk => ?_⟩
    · rw [List.length_set]
      rcases List.mem_append.mp m with m | m
      · exact h.lt e m
      · have : e = (p, i) := by simpa using m
        subst this; exact c
    · rw [List.length_set] at hk
      rw [inRow_put, List.getElem?_set]
      by_cases q : i = k
      · subst q
        rw [if_pos rfl, if_pos hk, if_pos rfl]
      · rw [if_neg q, if_neg q, List.append_nil]
        exact h.row k hk
    · rw [List.length_set] at hk
      obtain ⟨e, m, q⟩ := h.some' k hk
      exact ⟨e, List.mem_append_left _ m, q⟩
  · rw [dif_neg c]
    have e0 : rows.findIdx (freeR p) = rows.length := by omega
    rw [e0]
    simp only [Option.getD_none]
    refine ⟨fun e m => ?_, fun k hk => ?_, fun k hk => ?_⟩
    · rw [List.length_append, List.length_singleton]
      rcases List.mem_append.mp m with m | m
      · have := h.lt e m; omega
      · have : e = (p, rows.length) := by simpa using m
        subst this; exact Nat.lt_succ_self _
    · rw [List.length_append, List.length_singleton] at hk
      rw [inRow_put]
      by_cases q : rows.length = k
      · subst q
        have z : inRow pl rows.length = [] := by
          unfold inRow
          rw [List.map_eq_nil_iff, List.filter_eq_nil_iff]
          intro e m
          have := h.lt e m
          simp; omega
        rw [if_pos rfl, z, List.getElem?_append_right (Nat.le_refl _), Nat.sub_self]; rfl
      · rw [if_neg q, List.append_nil, List.getElem?_append_left (by omega)]
        exact h.row k (by omega)
    · rw [List.length_append, List.length_singleton] at hk
      by_cases q : k = rows.length
      · exact ⟨(p, rows.length), by simp, q.symm⟩
      · obtain ⟨e, m, q⟩ := h.some' k (by omega)
        exact ⟨e, List.mem_append_left _ m, q⟩
theorem flatDs_ints : ∀ ns : List Int, flatDs (ns.map D.int) = some (ns.map V.int)
  | [] => rfl
  | n :: ns => by simp only [List.map_cons, flatDs, flatD, flatDs_ints ns]
theorem inU_ints {f : Fl} {z : Int} {ns : List Int} : inU (.int z) (.lst f (ns.map D.int)) = .ok (.bl (decide (z ∈ ns))) := by
  unfold inU inB
  simp only [flatD, flatDs_ints]
  have : L2.inV (.int z) (ns.map V.int) = decide (z ∈ ns) := by
    unfold L2.inV
    induction ns with
    | nil => simp
    | cons n ns ih =>
      simp only [List.map_cons, List.any_cons, ih, List.mem_cons]
      by_cases e : n = z
      · subst e; simp [L2.eqV]
      · have e2 : ¬ z = n := fun q => e q.symm
        simp [L2.eqV, e, e2]
  rw [this]
  rfl
theorem first_while {pl : Pl} {rows : List Row} {p : Str × Str} {x0 x1 : Sl} {al : List (Option D)} (h : PInv pl rows) : ∀ (n i : Nat), rows.length - i = n → i ≤ rows.findIdx (freeR p) →
    sWhile (gQT (tV (qOp inU (qV 3) (qV 2)))) (B0__law_first K A) ⟨[x0, x1, .val (.lst .own (((takenOf pl p).map fun k : Nat => (k : Int)).map D.int)), .val (.int (i : Int)), .no, .no], al⟩ = .nx ⟨[x0, x1, .val (.lst .own (((takenOf pl p).map fun k : Nat => (k : Int)).map D.int)), .val (.int (rows.findIdx (freeR p) : Nat)), .no, .no], al⟩
  | n, i, e, hi => by
    have fl := List.findIdx_le_length (p := freeR p) (xs := rows)
    have mi : ((i : Int) ∈ (takenOf pl p).map fun k : Nat => (k : Int)) ↔ i ∈ takenOf pl p := by
      simp only [List.mem_map]
      exact ⟨fun ⟨a, m, q⟩ => by rw [← Int.ofNat.inj q]; exact m, fun m => ⟨i, m, rfl⟩⟩
    refine sWhile_step (fun z => by cases z) ?_
    by_cases c : i ∈ takenOf pl p
    · obtain ⟨r, e1, e2⟩ := (taken_iff h).mp c
      obtain ⟨lt, e3⟩ := List.getElem?_eq_some_iff.mp e1
      have ei : i + 1 ≤ rows.findIdx (freeR p) := by
        refine Nat.lt_of_le_of_ne hi fun q => ?_
        have lt2 : rows.findIdx (freeR p) < rows.length := by omega
        have := List.findIdx_getElem (p := freeR p) (xs := rows) (w := lt2)
        simp only [← q] at this
        rw [e3, e2] at this
        cases this
      have ih := first_while (x0 := x0) (x1 := x1) (al := al) (p := p) h (n - 1) (i + 1) (by omega) ei
      have rd : B0__law_first K A ⟨[x0, x1, .val (.lst .own (((takenOf pl p).map fun k : Nat => (k : Int)).map D.int)), .val (.int (i : Int)), .no, .no], al⟩ = .nx ⟨[x0, x1, .val (.lst .own (((takenOf pl p).map fun k : Nat => (k : Int)).map D.int)), .val (.int ((i + 1 : Nat) : Int)), .no, .no], al⟩ := by
        unfold B0__law_first
        push_cast only [eS_all, eS_map, gS, gP, eTs_all, eTs_map, ePs_all, ePs_map, tupSs_all, tupSs_map, tupS_all, tupS_q, f_is_name, f_is_within, f_sure, f_ties, allFL_app, mapFL_app]
        rfl
      push_cast only [eS_all, eS_map, gS, gP, eTs_all, eTs_map, ePs_all, ePs_map, tupSs_all, tupSs_map, tupS_all, tupS_q, f_is_name, f_is_within, f_sure, f_ties, allFL_app, mapFL_app, inU_ints, decide_eq_true (mi.mpr c), rd, ih]
    · have ei : rows.findIdx (freeR p) = i := by
        refine Nat.le_antisymm ?_ hi
        by_cases q : i < rows.findIdx (freeR p)
        · have lt : i < rows.length := by omega
          have := List.not_of_lt_findIdx q
          exact absurd ((taken_iff h).mpr ⟨rows[i], List.getElem?_eq_getElem lt, by simpa using this⟩) c
        · omega
      rw [ei]
      push_cast only [eS_all, eS_map, gS, gP, eTs_all, eTs_map, ePs_all, ePs_map, tupSs_all, tupSs_map, tupS_all, tupS_q, f_is_name, f_is_within, f_sure, f_ties, allFL_app, mapFL_app, inU_ints, decide_eq_false (fun z => c (mi.mp z))]
  termination_by n i e hi => n
  decreasing_by omega
theorem f_first {pl : Pl} {rows : List Row} {p : Str × Str} {f : Fl} (h : PInv pl rows) (hl : pl.length ≤ 100) : F__law_first K A [.lst f (pl.map ePl), eT p] = .rt (.int (rows.findIdx (freeR p) : Nat)) [none, none] := by
  have c1 : compV (.tp [.nm 4, .nm 5]) (tOr (tV (qOp inU (qOp ixV (qV 1) (qC (.int 0))) (qV 4))) (tV (qOp inU (qOp ixV (qV 1) (qC (.int 1))) (qV 4)))) (qV 5) ⟨[.val (.lst f (pl.map ePl)), .val (eT p), .no, .no, .no, .no], [none, none]⟩ (pl.map ePl) = .ok (((takenOf pl p).map fun k : Nat => (k : Int)).map D.int) := by
    rw [compV_filter (p := fun e : (Str × Str) × Nat => meets p e.1) (h := fun e => D.int (e.2 : Int)) pl fun e m => ⟨_, rfl, ?_, fun _ => ⟨rfl, rfl⟩⟩]
    · unfold takenOf
      rw [List.map_map, List.map_map]; rfl
    · by_cases c : p.1 = e.1.1 ∨ p.1 = e.1.2
      · push_cast only [eS_all, eS_map, gS, gP, eTs_all, eTs_map, ePs_all, ePs_map, tupSs_all, tupSs_map, tupS_all, tupS_q, f_is_name, f_is_within, f_sure, f_ties, allFL_app, mapFL_app, inU_tup2, decide_eq_true c]
        simp [meets, c]
      · push_cast only [eS_all, eS_map, gS, gP, eTs_all, eTs_map, ePs_all, ePs_map, tupSs_all, tupSs_map, tupS_all, tupS_q, f_is_name, f_is_within, f_sure, f_ties, allFL_app, mapFL_app, inU_tup2, decide_eq_false c]
        simp [meets, c]
  have z1 : (takenOf pl p).length ≤ sizeLine := by
    unfold takenOf
    rw [List.length_map]
    exact Nat.le_trans (List.length_filter_le _ _) (Nat.le_trans hl (by decide))
  have lp := first_while (K := K) (A := A) (x0 := .val (.lst f (pl.map ePl))) (x1 := .val (eT p)) (al := [none, none]) (p := p) h rows.length 0 (by omega) (Nat.zero_le _)
  rw [show ((0 : Nat) : Int) = 0 from rfl] at lp
  unfold F__law_first
  push_cast only [eS_all, eS_map, gS, gP, eTs_all, eTs_map, ePs_all, ePs_map, tupSs_all, tupSs_map, tupS_all, tupS_q, f_is_name, f_is_within, f_sure, f_ties, allFL_app, mapFL_app, itemsD, c1, z1, lp]
end LW

namespace LW
open PySem PySem.Spec PyProof.Rows L2 VL
variable {K : PySem.W.Frag} {A : Adr}
section
variable {hs : List (Str × Int)} {ts : List (Str × Str)}
theorem ePls_all {q : Fl → Bool} {pl : Pl} : D.allFL q (pl.map ePl) = true := allFL_map fun x => rfl
theorem ePls_map {g : Fl → Fl} {pl : Pl} : D.mapFL g (pl.map ePl) = pl.map ePl := mapFL_plain ePls_all
theorem due_loop {x0 : Sl} {al : List (Option D)} : ∀ (td : List (Str × Str)) (pl : Pl) (rows : List Row) (x2 : Sl), PInv pl rows → pl.length + td.length ≤ 64 →
    ∃ pl' x2', forV (.nm 2) (B0__law_due K A) (td.map eT) ⟨[x0, .val (.lst .own (pl.map ePl)), x2, .no, .no, .no, .no], al⟩ = .nx ⟨[x0, .val (.lst .own (pl'.map ePl)), x2', .no, .no, .no, .no], al⟩ ∧ PInv pl' (td.foldl (fun rs p => putRow p rs) rows) ∧ pl'.length = pl.length + td.length
  | [], pl, rows, x2, h, _ => ⟨pl, x2, rfl, h, rfl⟩
  | p :: td, pl, rows, x2, h, hl => by
    simp only [List.length_cons] at hl
    have ff := f_first (K := K) (A := A) (p := p) (f := .bor) h (by omega)
    have z1 : pl.length < sizeLine := Nat.lt_of_lt_of_le (show pl.length < 64 by omega) (by decide)
    have rd : B0__law_due K A ⟨[x0, .val (.lst .own (pl.map ePl)), .val (eT p), .no, .no, .no, .no], al⟩ = .nx ⟨[x0, .val (.lst .own ((pl ++ [(p, rows.findIdx (freeR p))]).map ePl)), .val (eT p), .no, .no, .no, .no], al⟩ := by
      unfold B0__law_due
      push_cast only [eS_all, eS_map, gS, gP, eTs_all, eTs_map, ePs_all, ePs_map, tupSs_all, tupSs_map, tupS_all, tupS_q, f_is_name, f_is_within, f_sure, f_ties, allFL_app, mapFL_app, ff, z1, ePls_all, ePls_map]
    obtain ⟨pl', x2', e, h', l'⟩ := due_loop (x0 := x0) (al := al) td _ _ (.val (eT p)) (pinv_put h p) (by simp; omega)
    exact ⟨pl', x2', by rw [List.map_cons, forV_nx put_nm rd]; exact e, h', by rw [l']; simp; omega⟩
theorem many_is {pl : Pl} {rows : List Row} (h : PInv pl rows) : (if (pl.map fun e => (e.2 : Int) + 1) = [] then 0 else maxI (pl.map fun e => (e.2 : Int) + 1)) = (rows.length : Int) := by
  by_cases e : pl = []
  · subst e
    cases rows with
    | nil => rfl
    | cons r rows =>
      obtain ⟨e, m, _⟩ := h.some' 0 (by simp)
      cases m
  · have ne : (pl.map fun e => (e.2 : Int) + 1) ≠ [] := fun z => e (List.map_eq_nil_iff.mp z)
    rw [if_neg ne]
    obtain ⟨m1, m2⟩ := maxI_mem ne
    obtain ⟨e1, me, q⟩ := List.mem_map.mp m1
    have lt := h.lt e1 me
    obtain ⟨e2, me2, q2⟩ := h.some' (rows.length - 1) (by omega)
    have := m2 _ (List.mem_map.mpr ⟨e2, me2, rfl⟩)
    omega
theorem rows_of {pl : Pl} {rows : List Row} (h : PInv pl rows) {f : Fl} : (List.range rows.length).map (fun k => D.lst f ((inRow pl k).map eT)) = rows.map (eRow f) := by
  refine List.ext_getElem? fun i => ?_
  rw [List.getElem?_map, List.getElem?_map]
  by_cases c : i < rows.length
  · rw [List.getElem?_range c, h.row i c]; rfl
  · rw [List.getElem?_eq_none (by simpa using c), List.getElem?_eq_none (by simpa using c)]; rfl
theorem f_due (h : HOk hs) (t : TOk hs ts) : F__law_due K A [.lst .bor (ts.map eT)] = .rt (.lst .own ((rowsOf (prP ts)).map (eRow .frz))) [none] := by
  have hl := t.few
  have zl : ts.length ≤ sizeLine := Nat.le_trans (Nat.le_of_lt hl) (by decide)
  have c1 : compV (Tg.nm 5) VL.tYes (qCB tupleV (aCons (qCB sortV (aCons (qCB listV (aCons (qV 5) aNil)) aNil)) aNil)) ⟨[.val (.lst .bor (ts.map eT)), .val (.lst .own []), .no, .no, .no, .no, .no], [none]⟩ (ts.map eT) = .ok ((ts.map srt).map tupS) := by
    rw [List.map_map]
    refine compV_map ts fun e m => ?_
    refine ⟨_, put_nm, rfl, ?_, rfl, tupS_all⟩
    obtain ⟨q1, q2, q3⟩ := t.at' e m
    have e := sortV_strs (f := .new) (xs := [e.1, e.2]) (by simp [nm_ok (h.mem q1), nm_ok (h.mem q2)])
    simp only [List.map_cons, List.map_nil] at e
    push_cast only [eS_all, eS_map, gS, gP, eTs_all, eTs_map, ePs_all, ePs_map, tupSs_all, tupSs_map, tupS_all, tupS_q, f_is_name, f_is_within, f_sure, f_ties, allFL_app, mapFL_app, listV_t, e, tupleV_l, tupS]
    rfl
  have sv : ∀ {f : Fl}, sortV [.lst f ((ts.map srt).map tupS)] = .ok (.lst .new ((prP ts).map eT)) := fun {f} => by
    rw [sortV_tups (fun m hm w hw => by
      obtain ⟨p, mp, rfl⟩ := List.mem_map.mp hm
      obtain ⟨a, b, e, q⟩ := srt_two p
      rw [e] at hw
      simp only [List.mem_cons, List.not_mem_nil, or_false] at hw
      rcases (q w).mp hw with rfl | rfl
      · exact nm_ok (h.mem (t.at' _ mp).1)
      · exact nm_ok (h.mem (t.at' _ mp).2.1)) (fun m hm e => by
      obtain ⟨p, mp, rfl⟩ := List.mem_map.mp hm
      obtain ⟨a, b, e2, q⟩ := srt_two p
      rw [e] at e2
      cases e2)]
    rw [← prP_eT t]
    rfl
  obtain ⟨pl, x2, lp, pi, pll⟩ := due_loop (K := K) (A := A) (x0 := .val (.lst .bor (ts.map eT))) (al := [none]) (prP ts) [] [] .no ⟨fun e m => (by cases m), fun k hk => by simp at hk, fun k hk => by simp at hk⟩ (by rw [prP_len]; simp; omega)
  rw [List.map_nil] at lp
  rw [prP_len, List.length_nil, Nat.zero_add] at pll
  change PInv pl (rowsOf (prP ts)) at pi
  have ro := (rows_ok t).len
  generalize rowsOf (prP ts) = rows at pi ro ⊢
  have zp : pl.length ≤ sizeLine := by rw [pll]; exact zl
  have c2 : ∀ {x4 : Sl}, compV (.tp [.nm 2, .nm 6]) tYes (qOp addV (qV 6) (qC (.int 1))) ⟨[.val (.lst .bor (ts.map eT)), .val (.lst .own (pl.map ePl)), .no, .no, x4, .no, .no], [none]⟩ (pl.map ePl) = .ok ((pl.map fun e => (e.2 : Int) + 1).map D.int) := fun {x4} => by
    rw [List.map_map]
    refine compV_map pl fun e m => ⟨_, rfl, rfl, ?_, rfl, rfl⟩
    push_cast only [eS_all, eS_map, gS, gP, eTs_all, eTs_map, ePs_all, ePs_map, tupSs_all, tupSs_map, tupS_all, tupS_q, f_is_name, f_is_within, f_sure, f_ties, allFL_app, mapFL_app]
  have c3 : ∀ k : Nat, compV (.tp [.nm 2, .nm 6]) (tV (qOp VL.eqV (qV 6) (qV 4))) (qV 2) ⟨[.val (.lst .bor (ts.map eT)), .val (.lst .own (pl.map ePl)), .no, .val (.int (rows.length : Int)), .val (.int (0 + (k : Int))), .no, .no], [none]⟩ (pl.map ePl) = .ok ((inRow pl k).map eT) := fun k => by
    rw [compV_filter (p := fun e : (Str × Str) × Nat => decide (e.2 = k)) (h := fun e => eT e.1) pl fun e m => ⟨_, rfl, ?_, fun _ => ⟨rfl, rfl⟩⟩]
    · unfold inRow
      rw [List.map_map]; rfl
    · have q : decide ((e.2 : Int) = (k : Int)) = decide (e.2 = k) := by rw [decide_eq_decide]; exact ⟨fun z => Int.ofNat.inj z, fun z => by rw [z]⟩
      push_cast only [eS_all, eS_map, gS, gP, eTs_all, eTs_map, ePs_all, ePs_map, tupSs_all, tupSs_map, tupS_all, tupS_q, f_is_name, f_is_within, f_sure, f_ties, allFL_app, mapFL_app, q, Int.zero_add]
  have c4 : compV (.nm 4) tYes (qLc (iSeq (qV 1)) (.tp [(.nm 2), (.nm 6)]) (tV (qOp VL.eqV (qV 6) (qV 4))) (qV 2) [2, 6]) ⟨[.val (.lst .bor (ts.map eT)), .val (.lst .own (pl.map ePl)), x2, .val (.int (rows.length : Int)), .no, .no, .no], [none]⟩ ((List.range rows.length).map fun i : Nat => D.int (0 + (i : Int))) = .ok (rows.map (eRow .frz)) := by
    rw [compV_filter (p := fun _ => true) (h := fun k => D.lst .new ((inRow pl k).map eT)) _ fun k m => ⟨_, put_nm, rfl, fun _ => ⟨?_, ?_⟩⟩]
    · rw [List.filter_eq_self.mpr (fun _ _ => rfl), ← rows_of pi]; rfl
    · have zi : (inRow pl k).length ≤ sizeLine := by
        unfold inRow
        rw [List.length_map]
        exact Nat.le_trans (List.length_filter_le _ _) zp
      push_cast only [eS_all, eS_map, gS, gP, eTs_all, eTs_map, ePs_all, ePs_map, tupSs_all, tupSs_map, tupS_all, tupS_q, f_is_name, f_is_within, f_sure, f_ties, allFL_app, mapFL_app, itemsD, c3, zi]
    · simp only [D.st, D.noOwn, D.allF, ownF, eTs_all, Bool.and_self, Bool.true_and]
  have zr : rows.length ≤ sizeLine := Nat.le_trans ro (by decide)
  have hr : rng1 [.int (rows.length : Int)] = some (rngD 0 rows.length) := rng1_ap (by omega)
  have mi := many_is pi
  unfold F__law_due
  push_cast only [eS_all, eS_map, gS, gP, eTs_all, eTs_map, ePs_all, ePs_map, tupSs_all, tupSs_map, tupS_all, tupS_q, f_is_name, f_is_within, f_sure, f_ties, allFL_app, mapFL_app, itemsD, c1, zl, sv, lp, c2, zp, maxDK_i, mi, hr]
  unfold rngD
  push_cast only [eS_all, eS_map, gS, gP, eTs_all, eTs_map, ePs_all, ePs_map, tupSs_all, tupSs_map, tupS_all, tupS_q, f_is_name, f_is_within, f_sure, f_ties, allFL_app, mapFL_app, c4, zr, rows_all (q := ownF) (f := .frz) rfl, rows_all (q := borF) (f := .frz) rfl]
end
end LW

namespace LW
open PySem PySem.Spec PyProof.Rows L2 VL
variable {K : PySem.W.Frag} {A : Adr}
section
variable {hs : List (Str × Int)} {ts : List (Str × Str)}
theorem okL_rows (h : HOk hs) (t : TOk hs ts) {f : Fl} : D.okL 63 ((rowsOf (prP ts)).map (eRow f)) = true := okL_mapV _ fun r m => by
  show D.okL 62 (r.map eT) = true
  refine okL_mapV _ fun p mp => ?_
  obtain ⟨q1, q2, _⟩ := prP_at t (((rows_ok t).row r m).2 p mp)
  simp only [eT, D.ok, D.okL, nm_ok (h.mem q1), nm_ok (h.mem q2), Bool.and_self]
theorem deqL_rows {f g : Fl} : ∀ rows : List Row, deqL (rows.map (eRow f)) (rows.map (eRow g)) = true
  | [] => by simp only [List.map_nil, deqL_nil]
  | r :: rows => by
    rw [List.map_cons, List.map_cons, deqL_cons, deqL_rows rows, deq_lst, deqL_map deq_eT, decide_eq_true rfl]; rfl
theorem ne_told (h : HOk hs) (t : TOk hs ts) {f g f' g' : Fl} : neV (.lst f ((rowsOf (prP ts)).map (eRow f'))) (.lst g ((rowsOf (prP ts)).map (eRow g'))) = .ok (.bl false) := by
  rw [neV_l (okL_rows h t) (okL_rows h t), deqL_rows]; rfl
theorem ne_nil (h : HOk hs) (t : TOk hs ts) {f g f' : Fl} : neV (.lst f ((rowsOf (prP ts)).map (eRow f'))) (.lst g []) = .ok (.bl (!decide (rowsOf (prP ts) = []))) := by
  rw [neV_l (okL_rows h t) rfl]
  cases rowsOf (prP ts) with
  | nil => rfl
  | cons r rows => rfl
noncomputable abbrev two (p : Str × Str) : List Str := [p.1, p.2]
theorem eT_two {xs : List (Str × Str)} : xs.map eT = (xs.map two).map tupS := by rw [List.map_map]; rfl
theorem prP_two (t : TOk hs ts) : (prP ts).map two = prs ts := by
  unfold prP
  rw [List.map_map]
  conv => rhs; rw [← List.map_id (prs ts)]
  apply List.map_congr_left
  intro m hm
  obtain ⟨a, b, rfl, _⟩ := prs_ne t hm
  rfl
theorem putTry_flat {p : Str × Str} : ∀ {rows rows' : List Row}, putTry p rows = some rows' → rows'.flatten.Perm (p :: rows.flatten)
  | [], _, e => by cases e
  | r :: rows, rows', e => by
    rw [putTry] at e
    by_cases c : freeR p r = true
    · rw [if_pos c] at e
      cases e
      simp only [List.flatten_cons, List.append_assoc, List.singleton_append]
      exact List.perm_middle
    · rw [if_neg c] at e
      obtain ⟨rs, e1, rfl⟩ := Option.map_eq_some_iff.mp e
      simp only [List.flatten_cons]
      exact ((putTry_flat e1).append_left r).trans List.perm_middle
theorem putRow_flat {p : Str × Str} {rows : List Row} : (putRow p rows).flatten.Perm (p :: rows.flatten) := by
  unfold putRow
  cases e : putTry p rows with
  | some rows' => exact putTry_flat e
  | none =>
    simp only [Option.getD_none, List.flatten_append, List.flatten_cons, List.flatten_nil, List.append_nil]
    exact List.perm_append_comm
theorem fold_flat : ∀ (td : List (Str × Str)) (rows : List Row), (td.foldl (fun rs p => putRow p rs) rows).flatten.Perm (rows.flatten ++ td)
  | [], rows => by simp
  | p :: td, rows => by
    rw [List.foldl_cons]
    refine (fold_flat td _).trans ?_
    exact (putRow_flat.append_right td).trans (by rw [List.cons_append]; exact List.perm_middle.symm)
theorem rows_flat {td : List (Str × Str)} : (rowsOf td).flatten.Perm td := by
  have := fold_flat td []
  rw [List.flatten_nil, List.nil_append] at this
  exact this
theorem sum_sorted (h : HOk hs) (t : TOk hs ts) : sortV [.lst .new ((rowsOf (prP ts)).flatten.map eT)] = .ok (.lst .new ((prs ts).map tupS)) := by
  have mem : ∀ p ∈ (rowsOf (prP ts)).flatten, p ∈ prP ts := fun p m => rows_flat.subset m
  rw [eT_two, sortV_tups (fun m hm w hw => by
      obtain ⟨p, mp, rfl⟩ := List.mem_map.mp hm
      obtain ⟨q1, q2, _⟩ := prP_at t (mem p mp)
      simp only [two, List.mem_cons, List.not_mem_nil, or_false] at hw
      rcases hw with rfl | rfl
      · exact nm_ok (h.mem q1)
      · exact nm_ok (h.mem q2)) (fun m hm e => by
      obtain ⟨p, mp, rfl⟩ := List.mem_map.mp hm
      cases e)]
  have e1 : sortT ((rowsOf (prP ts)).flatten.map two) = sortT (ts.map srt) := sortT_perm2 (fun m hm => by
      obtain ⟨p, mp, rfl⟩ := List.mem_map.mp hm
      exact ⟨_, _, rfl⟩) (fun m hm => by
      obtain ⟨p, mp, rfl⟩ := List.mem_map.mp hm
      obtain ⟨a, b, e, _⟩ := srt_two p
      exact ⟨a, b, e⟩) (by
      refine (rows_flat.map two).trans ?_
      rw [prP_two t]
      exact sortT_pm)
  rw [e1]
  rfl
theorem ne_prs (h : HOk hs) (t : TOk hs ts) {f g : Fl} : neV (.lst f ((prs ts).map tupS)) (.lst g ((prs ts).map tupS)) = .ok (.bl false) := by
  rw [neV_l (okL_tups (prs_ok h t)) (okL_tups (prs_ok h t)), deqL_map deq_tupS, decide_eq_true rfl]; rfl
theorem told_round (h : HOk hs) (t : TOk hs ts) {x0 x2 x3 x4 x7 : Sl} {al : List (Option D)} :
    B0_law K A ⟨[x0, .no, x2, x3, x4, .val (eW .own A hs ts), .val (.lst .own ((rowsOf (prP ts)).map (eRow .frz))), x7, .no], al⟩ = .nx ⟨[x0, .no, x2, x3, x4, .val (eW .own A hs ts), .val (.lst .own ((rowsOf (prP ts)).map (eRow .frz))), .no, .no], al⟩ := by
  have io : ∀ {f : Fl}, VL.isObj A.c_Web "turns" (eW f A hs ts) = true := fun {f} => by
    show (decide (A.c_Web = A.c_Web) && (decide (kS "strong" ≠ kS "turns") && (decide (kS "pairs" ≠ kS "turns") && true))) = true
    rw [decide_eq_true rfl, decide_eq_true (show kS "strong" ≠ kS "turns" by decide), decide_eq_true (show kS "pairs" ≠ kS "turns" by decide)]
    rfl
  have ft := f_turns (K := K) (A := A) t
  have wa : D.allFK ownF (webF .bor hs ts) = true := by
    simp only [webF, D.allFK, D.allF, ownF, eS_all, tupSs_all, Bool.and_self, Bool.and_true]
  have wb := web_view (hs := hs) (ts := ts) (f := .bor) rfl
  have nt := fun {f g f' g' : Fl} => ne_told h t (f := f) (g := g) (f' := f') (g' := g')
  have nn := fun {f g f' : Fl} => ne_nil h t (f := f) (g := g) (f' := f')
  have ro := rows_ok t
  have il : ∀ xs : List D, isiV [.lst .own xs, .ty "list"] = .ok (.bl true) := fun xs => isi_of (d := .lst .own xs) (s := "list") (t := "list") (b := true) rfl rfl
  unfold B0_law
  generalize rowsOf (prP ts) = rows at *
  cases rows with
  | nil =>
    rw [List.map_nil] at ft
    simp only [List.map_nil, decide_true, Bool.not_true] at nt nn
    have nt := fun {f g : Fl} => nt (f := f) (g := g) (f' := .own) (g' := .own)
    have nn := fun {f g : Fl} => nn (f := f) (g := g) (f' := .own)
    push_cast only [eS_all, eS_map, gS, gP, eTs_all, eTs_map, ePs_all, ePs_map, tupSs_all, tupSs_map, tupS_all, tupS_q, f_is_name, f_is_within, f_sure, f_ties, allFL_app, mapFL_app, il, io, wa, wb, web_view (f := .own) rfl, ft, nt, nn, fmQq_ap, fmQqK_some, hdQ_ok, fmQ2_t]
  | cons r rows =>
    simp only [List.map_cons, reduceCtorEq, decide_false, Bool.not_false] at nt nn
    have z1 : r.length < sizeLine := Nat.lt_of_le_of_lt (ro.row r (by simp)).1 (by decide)
    have z2 : rows.length + 1 < sizeLine := Nat.lt_of_le_of_lt (show (r :: rows).length ≤ 64 from ro.len) (by decide)
    push_cast only [eS_all, eS_map, gS, gP, eTs_all, eTs_map, ePs_all, ePs_map, tupSs_all, tupSs_map, tupS_all, tupS_q, f_is_name, f_is_within, f_sure, f_ties, allFL_app, mapFL_app, il, io, wa, wb, web_view (f := .own) rfl, ft, nt, nn, z1, z2, fmQq_ap, fmQqK_some, hdQ_ok, fmQ2_t, rows_map, List.map_cons]
theorem law_round {sc : D} {c : Int} : B1_law K A ⟨[.val sc, .val (.int c), .no, .no, .no, .no, .no, .no, .no], [none]⟩ = .nx ⟨[.val sc, .no, .no, .no, .no, .no, .no, .no, .no], [none]⟩ := by
  obtain ⟨hs, st1, h1, g1, o1, l1, l2⟩ := hands_ok (K := K) (A := A) (st := [c]) (.inl rfl)
  obtain ⟨ts, st2, h2, g2, i2, l3⟩ := ties_ok (K := K) (A := A) g1 o1 l2
  have t := tok_of o1 i2 l3
  have e1 : St [c] = .lst .own [.int c] := rfl
  rw [e1] at h1
  have io : ∀ {f : Fl}, VL.isObj A.c_Web "ties" (eW f A hs ts) = true := fun {f} => by
    show (decide (A.c_Web = A.c_Web) && (decide (kS "strong" ≠ kS "ties") && (decide (kS "pairs" ≠ kS "ties") && true))) = true
    rw [decide_eq_true rfl, decide_eq_true (show kS "strong" ≠ kS "ties" by decide), decide_eq_true (show kS "pairs" ≠ kS "ties" by decide)]
    rfl
  have fd := f_due (K := K) (A := A) o1 t
  have tr := fun {x0 x2 x3 x4 x7 : Sl} {al : List (Option D)} => told_round (K := K) (A := A) o1 t (x0 := x0) (x2 := x2) (x3 := x3) (x4 := x4) (x7 := x7) (al := al)
  have zf : ((rowsOf (prP ts)).map fun r => r.map eT).flatten.length ≤ 100000 := by
    have := (rows_flat (td := prP ts)).length_eq
    rw [prP_len] at this
    rw [← List.map_flatten, List.length_map, this]
    exact Nat.le_trans (Nat.le_of_lt t.few) (by decide)
  have sl : ∀ {f : Fl}, sumLK (.lst f ((rowsOf (prP ts)).map (eRow .frz))) = .ok (.lst .new ((rowsOf (prP ts)).flatten.map eT)) := fun {f} => by
    rw [List.map_flatten]
    exact sumLK_map (f := .frz) (g := fun r : Row => r.map eT) (by decide) zf
  have rg : rng1 [.int 2] = some [.int (0 + ((0 : Nat) : Int)), .int (0 + ((1 : Nat) : Int))] := rng1_ap (n := 2) (by decide)
  have np := fun {f g : Fl} => ne_prs o1 t (f := f) (g := g)
  have ss := sum_sorted o1 t
  unfold B1_law
  push_cast only [eS_all, eS_map, gS, gP, eTs_all, eTs_map, ePs_all, ePs_map, tupSs_all, tupSs_map, tupS_all, tupS_q, f_is_name, f_is_within, f_sure, f_ties, allFL_app, mapFL_app, h1, h2, f_init o1 l1 l2 t, ePs_all, ePs_map, eTs_all, eTs_map, fd, rows_map, rows_all (q := ownF) (f := .frz) rfl, rg, tr, io, web_view (f := .own) rfl, f_ties, sl, ss, np]
theorem law_loop {sc : D} : ∀ cs : List Int, forV (.nm 1) (B1_law K A) (cs.map D.int) ⟨[.val sc, .no, .no, .no, .no, .no, .no, .no, .no], [none]⟩ = .nx ⟨[.val sc, .no, .no, .no, .no, .no, .no, .no, .no], [none]⟩
  | [] => rfl
  | c :: cs => by
    rw [List.map_cons, forV_nx put_nm (law_round (sc := sc) (c := c))]
    exact law_loop cs
theorem law_holds (ns : List Int) (h : ns.length ≤ 63) : ∃ os, F_law K A [.lst .loc (ns.map D.int)] = .rt (.bl true) os := by
  unfold F_law
  have ct : cutG (ns.map D.int) none (some 8) = (ns.take 8).map D.int := by
    rw [show (8 : Int) = ((8 : Nat) : Int) from rfl, cut_to, List.map_take]
  have n1 : 1 + (ns.take 8).length ≤ sizeLine := by
    have : (ns.take 8).length ≤ 8 := by simp; omega
    exact Nat.le_trans (show _ ≤ 9 by omega) (by decide)
  have e := law_loop (K := K) (A := A) (sc := .lst .loc (ns.map D.int)) (0 :: ns.take 8)
  rw [List.map_cons] at e
  push_cast only [eS_all, eS_map, gS, gP, eTs_all, eTs_map, ePs_all, ePs_map, tupSs_all, tupSs_map, tupS_all, tupS_q, f_is_name, f_is_within, f_sure, f_ties, allFL_app, mapFL_app, ct, n1, itemsD, e]
  exact ⟨_, rfl⟩
end
end LW



namespace LW
open PySem PySem.Spec PyProof.Rows L2 VL
theorem all_mk {P : Program} {w : World} {K : PySem.W.Frag} {h : Heap} {mg : Str → Option Value} {fa : Addr} (X : K.In h) (G : h.Ns mainGlobals mg) (hfa : mg "law" = some (.ref fa))
    {c_NoWeb : Addr}
    {c_Web : Addr}
    {g_is_whole : Addr} {oc_is_whole kV_is_whole dc_is_whole pm_is_whole cd_is_whole ct_is_whole : Value} {od_is_whole an_is_whole : Option Addr} {sl_is_whole : Array (Option Value)}
    {g_is_within : Addr} {oc_is_within kV_is_within dc_is_within pm_is_within cd_is_within ct_is_within : Value} {od_is_within an_is_within : Option Addr} {sl_is_within : Array (Option Value)}
    {g_is_name : Addr} {oc_is_name kV_is_name dc_is_name pm_is_name cd_is_name ct_is_name : Value} {od_is_name an_is_name : Option Addr} {sl_is_name : Array (Option Value)}
    {g_is_hand_row : Addr} {oc_is_hand_row kV_is_hand_row dc_is_hand_row pm_is_hand_row cd_is_hand_row ct_is_hand_row : Value} {od_is_hand_row an_is_hand_row : Option Addr} {sl_is_hand_row : Array (Option Value)}
    {g_is_pair : Addr} {oc_is_pair kV_is_pair dc_is_pair pm_is_pair cd_is_pair ct_is_pair : Value} {od_is_pair an_is_pair : Option Addr} {sl_is_pair : Array (Option Value)}
    {g_sorted_pair : Addr} {oc_sorted_pair kV_sorted_pair dc_sorted_pair pm_sorted_pair cd_sorted_pair ct_sorted_pair : Value} {od_sorted_pair an_sorted_pair : Option Addr} {sl_sorted_pair : Array (Option Value)}
    {g_sure : Addr} {oc_sure kV_sure dc_sure pm_sure cd_sure ct_sure : Value} {od_sure an_sure : Option Addr} {sl_sure : Array (Option Value)}
    {g_strengths_of : Addr} {oc_strengths_of kV_strengths_of dc_strengths_of pm_strengths_of cd_strengths_of ct_strengths_of : Value} {od_strengths_of an_strengths_of : Option Addr} {sl_strengths_of : Array (Option Value)}
    {g_pairs_of : Addr} {oc_pairs_of kV_pairs_of dc_pairs_of pm_pairs_of cd_pairs_of ct_pairs_of : Value} {od_pairs_of an_pairs_of : Option Addr} {sl_pairs_of : Array (Option Value)}
    {g_Web___init__ : Addr} {oc_Web___init__ kV_Web___init__ dc_Web___init__ pm_Web___init__ cd_Web___init__ ct_Web___init__ : Value} {od_Web___init__ an_Web___init__ : Option Addr} {sl_Web___init__ : Array (Option Value)}
    {g_Web_ties : Addr} {oc_Web_ties kV_Web_ties dc_Web_ties pm_Web_ties cd_Web_ties ct_Web_ties : Value} {od_Web_ties an_Web_ties : Option Addr} {sl_Web_ties : Array (Option Value)}
    {g_put_into_row : Addr} {oc_put_into_row kV_put_into_row dc_put_into_row pm_put_into_row cd_put_into_row ct_put_into_row : Value} {od_put_into_row an_put_into_row : Option Addr} {sl_put_into_row : Array (Option Value)}
    {g_Web_turns : Addr} {oc_Web_turns kV_Web_turns dc_Web_turns pm_Web_turns cd_Web_turns ct_Web_turns : Value} {od_Web_turns an_Web_turns : Option Addr} {sl_Web_turns : Array (Option Value)}
    {g__law_digit : Addr} {oc__law_digit kV__law_digit dc__law_digit pm__law_digit cd__law_digit ct__law_digit : Value} {od__law_digit an__law_digit : Option Addr} {sl__law_digit : Array (Option Value)}
    {g__law_name : Addr} {oc__law_name kV__law_name dc__law_name pm__law_name cd__law_name ct__law_name : Value} {od__law_name an__law_name : Option Addr} {sl__law_name : Array (Option Value)}
    {g__law_hands : Addr} {oc__law_hands kV__law_hands dc__law_hands pm__law_hands cd__law_hands ct__law_hands : Value} {od__law_hands an__law_hands : Option Addr} {sl__law_hands : Array (Option Value)}
    {g__law_ties : Addr} {oc__law_ties kV__law_ties dc__law_ties pm__law_ties cd__law_ties ct__law_ties : Value} {od__law_ties an__law_ties : Option Addr} {sl__law_ties : Array (Option Value)}
    {g__law_first : Addr} {oc__law_first kV__law_first dc__law_first pm__law_first cd__law_first ct__law_first : Value} {od__law_first an__law_first : Option Addr} {sl__law_first : Array (Option Value)}
    {g__law_due : Addr} {oc__law_due kV__law_due dc__law_due pm__law_due cd__law_due ct__law_due : Value} {od__law_due an__law_due : Option Addr} {sl__law_due : Array (Option Value)}
    {g_law : Addr} {oc_law kV_law dc_law pm_law cd_law ct_law : Value} {od_law an_law : Option Addr} {sl_law : Array (Option Value)}
    {t_LETTERS : Tok}
    {t_MOST_HANDS : Tok}
    {t_MOST_STRENGTH : Tok}
    (a_is_whole : PySem.W.nsIn K mainGlobals "is_whole" = some (some (.ref g_is_whole)))
    (l_is_whole : K.lookup g_is_whole = some ⟨oc_is_whole, od_is_whole, .func (PySem.W.fnOf "is_whole" "is_whole" (defArgs (top 6)) (defBody (top 6)) (defScope (top 6)) .none kV_is_whole dc_is_whole pm_is_whole an_is_whole cd_is_whole ct_is_whole), sl_is_whole⟩)
    (q_is_whole : PySem.W.codeIn K cd_is_whole "is_whole" = true)
    (k_is_whole : PySem.W.keepIn K (.ref g_is_whole) = true)
    (a_is_within : PySem.W.nsIn K mainGlobals "is_within" = some (some (.ref g_is_within)))
    (l_is_within : K.lookup g_is_within = some ⟨oc_is_within, od_is_within, .func (PySem.W.fnOf "is_within" "is_within" (defArgs (top 7)) (defBody (top 7)) (defScope (top 7)) .none kV_is_within dc_is_within pm_is_within an_is_within cd_is_within ct_is_within), sl_is_within⟩)
    (q_is_within : PySem.W.codeIn K cd_is_within "is_within" = true)
    (k_is_within : PySem.W.keepIn K (.ref g_is_within) = true)
    (a_is_name : PySem.W.nsIn K mainGlobals "is_name" = some (some (.ref g_is_name)))
    (l_is_name : K.lookup g_is_name = some ⟨oc_is_name, od_is_name, .func (PySem.W.fnOf "is_name" "is_name" (defArgs (top 8)) (defBody (top 8)) (defScope (top 8)) .none kV_is_name dc_is_name pm_is_name an_is_name cd_is_name ct_is_name), sl_is_name⟩)
    (q_is_name : PySem.W.codeIn K cd_is_name "is_name" = true)
    (k_is_name : PySem.W.keepIn K (.ref g_is_name) = true)
    (a_is_hand_row : PySem.W.nsIn K mainGlobals "is_hand_row" = some (some (.ref g_is_hand_row)))
    (l_is_hand_row : K.lookup g_is_hand_row = some ⟨oc_is_hand_row, od_is_hand_row, .func (PySem.W.fnOf "is_hand_row" "is_hand_row" (defArgs (top 12)) (defBody (top 12)) (defScope (top 12)) .none kV_is_hand_row dc_is_hand_row pm_is_hand_row an_is_hand_row cd_is_hand_row ct_is_hand_row), sl_is_hand_row⟩)
    (q_is_hand_row : PySem.W.codeIn K cd_is_hand_row "is_hand_row" = true)
    (k_is_hand_row : PySem.W.keepIn K (.ref g_is_hand_row) = true)
    (a_is_pair : PySem.W.nsIn K mainGlobals "is_pair" = some (some (.ref g_is_pair)))
    (l_is_pair : K.lookup g_is_pair = some ⟨oc_is_pair, od_is_pair, .func (PySem.W.fnOf "is_pair" "is_pair" (defArgs (top 13)) (defBody (top 13)) (defScope (top 13)) .none kV_is_pair dc_is_pair pm_is_pair an_is_pair cd_is_pair ct_is_pair), sl_is_pair⟩)
    (q_is_pair : PySem.W.codeIn K cd_is_pair "is_pair" = true)
    (k_is_pair : PySem.W.keepIn K (.ref g_is_pair) = true)
    (a_sorted_pair : PySem.W.nsIn K mainGlobals "sorted_pair" = some (some (.ref g_sorted_pair)))
    (l_sorted_pair : K.lookup g_sorted_pair = some ⟨oc_sorted_pair, od_sorted_pair, .func (PySem.W.fnOf "sorted_pair" "sorted_pair" (defArgs (top 14)) (defBody (top 14)) (defScope (top 14)) .none kV_sorted_pair dc_sorted_pair pm_sorted_pair an_sorted_pair cd_sorted_pair ct_sorted_pair), sl_sorted_pair⟩)
    (q_sorted_pair : PySem.W.codeIn K cd_sorted_pair "sorted_pair" = true)
    (k_sorted_pair : PySem.W.keepIn K (.ref g_sorted_pair) = true)
    (a_sure : PySem.W.nsIn K mainGlobals "sure" = some (some (.ref g_sure)))
    (l_sure : K.lookup g_sure = some ⟨oc_sure, od_sure, .func (PySem.W.fnOf "sure" "sure" (defArgs (top 15)) (defBody (top 15)) (defScope (top 15)) .none kV_sure dc_sure pm_sure an_sure cd_sure ct_sure), sl_sure⟩)
    (q_sure : PySem.W.codeIn K cd_sure "sure" = true)
    (k_sure : PySem.W.keepIn K (.ref g_sure) = true)
    (a_strengths_of : PySem.W.nsIn K mainGlobals "strengths_of" = some (some (.ref g_strengths_of)))
    (l_strengths_of : K.lookup g_strengths_of = some ⟨oc_strengths_of, od_strengths_of, .func (PySem.W.fnOf "strengths_of" "strengths_of" (defArgs (top 16)) (defBody (top 16)) (defScope (top 16)) .none kV_strengths_of dc_strengths_of pm_strengths_of an_strengths_of cd_strengths_of ct_strengths_of), sl_strengths_of⟩)
    (q_strengths_of : PySem.W.codeIn K cd_strengths_of "strengths_of" = true)
    (k_strengths_of : PySem.W.keepIn K (.ref g_strengths_of) = true)
    (a_pairs_of : PySem.W.nsIn K mainGlobals "pairs_of" = some (some (.ref g_pairs_of)))
    (l_pairs_of : K.lookup g_pairs_of = some ⟨oc_pairs_of, od_pairs_of, .func (PySem.W.fnOf "pairs_of" "pairs_of" (defArgs (top 17)) (defBody (top 17)) (defScope (top 17)) .none kV_pairs_of dc_pairs_of pm_pairs_of an_pairs_of cd_pairs_of ct_pairs_of), sl_pairs_of⟩)
    (q_pairs_of : PySem.W.codeIn K cd_pairs_of "pairs_of" = true)
    (k_pairs_of : PySem.W.keepIn K (.ref g_pairs_of) = true)
    (a_Web___init__ : PySem.W.findIn K (.ref c_Web) "__init__" = some (some (.ref g_Web___init__)))
    (i_Web___init__ : PySem.W.isFn K (.ref g_Web___init__) = true)
    (l_Web___init__ : K.lookup g_Web___init__ = some ⟨oc_Web___init__, od_Web___init__, .func (PySem.W.fnOf "__init__" "Web.__init__" (defArgs (inClass (top 18) 0)) (defBody (inClass (top 18) 0)) (defScope (inClass (top 18) 0)) .none kV_Web___init__ dc_Web___init__ pm_Web___init__ an_Web___init__ cd_Web___init__ ct_Web___init__), sl_Web___init__⟩)
    (q_Web___init__ : PySem.W.codeIn K cd_Web___init__ "Web.__init__" = true)
    (k_Web___init__ : PySem.W.keepIn K (.ref g_Web___init__) = true)
    (a_Web_ties : PySem.W.findIn K (.ref c_Web) "ties" = some (some (.ref g_Web_ties)))
    (i_Web_ties : PySem.W.isFn K (.ref g_Web_ties) = true)
    (l_Web_ties : K.lookup g_Web_ties = some ⟨oc_Web_ties, od_Web_ties, .func (PySem.W.fnOf "ties" "Web.ties" (defArgs (inClass (top 18) 6)) (defBody (inClass (top 18) 6)) (defScope (inClass (top 18) 6)) .none kV_Web_ties dc_Web_ties pm_Web_ties an_Web_ties cd_Web_ties ct_Web_ties), sl_Web_ties⟩)
    (q_Web_ties : PySem.W.codeIn K cd_Web_ties "Web.ties" = true)
    (k_Web_ties : PySem.W.keepIn K (.ref g_Web_ties) = true)
    (a_put_into_row : PySem.W.nsIn K mainGlobals "put_into_row" = some (some (.ref g_put_into_row)))
    (l_put_into_row : K.lookup g_put_into_row = some ⟨oc_put_into_row, od_put_into_row, .func (PySem.W.fnOf "put_into_row" "put_into_row" (defArgs (top 19)) (defBody (top 19)) (defScope (top 19)) .none kV_put_into_row dc_put_into_row pm_put_into_row an_put_into_row cd_put_into_row ct_put_into_row), sl_put_into_row⟩)
    (q_put_into_row : PySem.W.codeIn K cd_put_into_row "put_into_row" = true)
    (k_put_into_row : PySem.W.keepIn K (.ref g_put_into_row) = true)
    (a_Web_turns : PySem.W.findIn K (.ref c_Web) "turns" = some (some (.ref g_Web_turns)))
    (i_Web_turns : PySem.W.isFn K (.ref g_Web_turns) = true)
    (l_Web_turns : K.lookup g_Web_turns = some ⟨oc_Web_turns, od_Web_turns, .func (PySem.W.fnOf "turns" "Web.turns" (defArgs (inClass (top 18) 8)) (defBody (inClass (top 18) 8)) (defScope (inClass (top 18) 8)) .none kV_Web_turns dc_Web_turns pm_Web_turns an_Web_turns cd_Web_turns ct_Web_turns), sl_Web_turns⟩)
    (q_Web_turns : PySem.W.codeIn K cd_Web_turns "Web.turns" = true)
    (k_Web_turns : PySem.W.keepIn K (.ref g_Web_turns) = true)
    (a__law_digit : PySem.W.nsIn K mainGlobals "_law_digit" = some (some (.ref g__law_digit)))
    (l__law_digit : K.lookup g__law_digit = some ⟨oc__law_digit, od__law_digit, .func (PySem.W.fnOf "_law_digit" "_law_digit" (defArgs (top 22)) (defBody (top 22)) (defScope (top 22)) .none kV__law_digit dc__law_digit pm__law_digit an__law_digit cd__law_digit ct__law_digit), sl__law_digit⟩)
    (q__law_digit : PySem.W.codeIn K cd__law_digit "_law_digit" = true)
    (k__law_digit : PySem.W.keepIn K (.ref g__law_digit) = true)
    (a__law_name : PySem.W.nsIn K mainGlobals "_law_name" = some (some (.ref g__law_name)))
    (l__law_name : K.lookup g__law_name = some ⟨oc__law_name, od__law_name, .func (PySem.W.fnOf "_law_name" "_law_name" (defArgs (top 23)) (defBody (top 23)) (defScope (top 23)) .none kV__law_name dc__law_name pm__law_name an__law_name cd__law_name ct__law_name), sl__law_name⟩)
    (q__law_name : PySem.W.codeIn K cd__law_name "_law_name" = true)
    (k__law_name : PySem.W.keepIn K (.ref g__law_name) = true)
    (a__law_hands : PySem.W.nsIn K mainGlobals "_law_hands" = some (some (.ref g__law_hands)))
    (l__law_hands : K.lookup g__law_hands = some ⟨oc__law_hands, od__law_hands, .func (PySem.W.fnOf "_law_hands" "_law_hands" (defArgs (top 24)) (defBody (top 24)) (defScope (top 24)) .none kV__law_hands dc__law_hands pm__law_hands an__law_hands cd__law_hands ct__law_hands), sl__law_hands⟩)
    (q__law_hands : PySem.W.codeIn K cd__law_hands "_law_hands" = true)
    (k__law_hands : PySem.W.keepIn K (.ref g__law_hands) = true)
    (a__law_ties : PySem.W.nsIn K mainGlobals "_law_ties" = some (some (.ref g__law_ties)))
    (l__law_ties : K.lookup g__law_ties = some ⟨oc__law_ties, od__law_ties, .func (PySem.W.fnOf "_law_ties" "_law_ties" (defArgs (top 25)) (defBody (top 25)) (defScope (top 25)) .none kV__law_ties dc__law_ties pm__law_ties an__law_ties cd__law_ties ct__law_ties), sl__law_ties⟩)
    (q__law_ties : PySem.W.codeIn K cd__law_ties "_law_ties" = true)
    (k__law_ties : PySem.W.keepIn K (.ref g__law_ties) = true)
    (a__law_first : PySem.W.nsIn K mainGlobals "_law_first" = some (some (.ref g__law_first)))
    (l__law_first : K.lookup g__law_first = some ⟨oc__law_first, od__law_first, .func (PySem.W.fnOf "_law_first" "_law_first" (defArgs (top 26)) (defBody (top 26)) (defScope (top 26)) .none kV__law_first dc__law_first pm__law_first an__law_first cd__law_first ct__law_first), sl__law_first⟩)
    (q__law_first : PySem.W.codeIn K cd__law_first "_law_first" = true)
    (k__law_first : PySem.W.keepIn K (.ref g__law_first) = true)
    (a__law_due : PySem.W.nsIn K mainGlobals "_law_due" = some (some (.ref g__law_due)))
    (l__law_due : K.lookup g__law_due = some ⟨oc__law_due, od__law_due, .func (PySem.W.fnOf "_law_due" "_law_due" (defArgs (top 27)) (defBody (top 27)) (defScope (top 27)) .none kV__law_due dc__law_due pm__law_due an__law_due cd__law_due ct__law_due), sl__law_due⟩)
    (q__law_due : PySem.W.codeIn K cd__law_due "_law_due" = true)
    (k__law_due : PySem.W.keepIn K (.ref g__law_due) = true)
    (a_law : PySem.W.nsIn K mainGlobals "law" = some (some (.ref g_law)))
    (l_law : K.lookup g_law = some ⟨oc_law, od_law, .func (PySem.W.fnOf "law" "law" (defArgs (top 28)) (defBody (top 28)) (defScope (top 28)) .none kV_law dc_law pm_law an_law cd_law ct_law), sl_law⟩)
    (q_law : PySem.W.codeIn K cd_law "law" = true)
    (k_law : PySem.W.keepIn K (.ref g_law) = true)
    (b_all : PySem.W.nsIn K mainGlobals "all" = some (none))
    (b_any : PySem.W.nsIn K mainGlobals "any" = some (none))
    (b_bool : PySem.W.nsIn K mainGlobals "bool" = some (none))
    (b_dict : PySem.W.nsIn K mainGlobals "dict" = some (none))
    (b_int : PySem.W.nsIn K mainGlobals "int" = some (none))
    (b_isinstance : PySem.W.nsIn K mainGlobals "isinstance" = some (none))
    (b_len : PySem.W.nsIn K mainGlobals "len" = some (none))
    (b_list : PySem.W.nsIn K mainGlobals "list" = some (none))
    (b_max : PySem.W.nsIn K mainGlobals "max" = some (none))
    (b_range : PySem.W.nsIn K mainGlobals "range" = some (none))
    (b_set : PySem.W.nsIn K mainGlobals "set" = some (none))
    (b_sorted : PySem.W.nsIn K mainGlobals "sorted" = some (none))
    (b_str : PySem.W.nsIn K mainGlobals "str" = some (none))
    (b_sum : PySem.W.nsIn K mainGlobals "sum" = some (none))
    (b_tuple : PySem.W.nsIn K mainGlobals "tuple" = some (none))
    (a_LETTERS : PySem.W.nsIn K mainGlobals "LETTERS" = some (some (.str "abcdefghijklmnopqrstuvwxyz" t_LETTERS)))
    (a_MOST_HANDS : PySem.W.nsIn K mainGlobals "MOST_HANDS" = some (some (.int 8 t_MOST_HANDS)))
    (a_MOST_STRENGTH : PySem.W.nsIn K mainGlobals "MOST_STRENGTH" = some (some (.int 1000 t_MOST_STRENGTH)))
    (a_NoWeb : PySem.W.nsIn K mainGlobals "NoWeb" = some (some (.ref c_NoWeb)))
    (xx_NoWeb : PySem.W.excIn K c_NoWeb [.type "ValueError", .type "Exception", .type "BaseException", .type "object"] "ValueError.__new__" = true)
    (xk_NoWeb : PySem.W.keepIn K (.ref c_NoWeb) = true)
    (xb_NoWeb : PySem.W.subIn K (.ref c_NoWeb) (.type "BaseException") = some true)
    (xt_NoWeb : PySem.W.typeIn K (.ref c_NoWeb) = some (.type "type"))
    (a_Web : PySem.W.nsIn K mainGlobals "Web" = some (some (.ref c_Web)))
    (kpg_Web : PySem.W.plainGet K c_Web Str.empty = true)
    (khd_Web : PySem.W.hasDictIn K c_Web = true)
    (kpo_Web : PySem.W.plainOver K c_Web = true)
    (ksa_Web : PySem.W.findIn K (.ref c_Web) "__setattr__" = some (some (.builtin "object.__setattr__")))
    (n_Web_pairs : PySem.W.findIn K (.ref c_Web) "pairs" = some none)
    (n_Web_strong : PySem.W.findIn K (.ref c_Web) "strong" = some none)
    (mk_Web : PySem.W.makesIn K c_Web = true)
    (kp_Web : PySem.W.keepIn K (.ref c_Web) = true)
    : ∃ fd : FuncData, (∀ (s : Shared) (v : Value), BindsTo s fd ⟨[v], []⟩ [("_law_script", v)]) ∧ ∀ base : Heap, K.In base → base.Ns mainGlobals mg → FnOk P w K mg base (L2.CX P w) 7 fa fd ["_law_script"] (spLawV K) := by
  have T : Txt K mg { c_EvenError := 0, c_NoWeb := c_NoWeb, c_Web := c_Web } := {
    f_is_whole := topFn_mk X G a_is_whole l_is_whole q_is_whole k_is_whole (fun _ _ _ _ _ _ us hl => match us, hl with | [_], _ => rfl),
    f_is_within := topFn_mk X G a_is_within l_is_within q_is_within k_is_within (fun _ _ _ _ _ _ us hl => match us, hl with | [_, _, _], _ => rfl),
    f_is_name := topFn_mk X G a_is_name l_is_name q_is_name k_is_name (fun _ _ _ _ _ _ us hl => match us, hl with | [_], _ => rfl),
    f_is_hand_row := topFn_mk X G a_is_hand_row l_is_hand_row q_is_hand_row k_is_hand_row (fun _ _ _ _ _ _ us hl => match us, hl with | [_], _ => rfl),
    f_is_pair := topFn_mk X G a_is_pair l_is_pair q_is_pair k_is_pair (fun _ _ _ _ _ _ us hl => match us, hl with | [_], _ => rfl),
    f_sorted_pair := topFn_mk X G a_sorted_pair l_sorted_pair q_sorted_pair k_sorted_pair (fun _ _ _ _ _ _ us hl => match us, hl with | [_], _ => rfl),
    f_sure := topFn_mk X G a_sure l_sure q_sure k_sure (fun _ _ _ _ _ _ us hl => match us, hl with | [_], _ => rfl),
    f_strengths_of := topFn_mk X G a_strengths_of l_strengths_of q_strengths_of k_strengths_of (fun _ _ _ _ _ _ us hl => match us, hl with | [_], _ => rfl),
    f_pairs_of := topFn_mk X G a_pairs_of l_pairs_of q_pairs_of k_pairs_of (fun _ _ _ _ _ _ us hl => match us, hl with | [_, _], _ => rfl),
    f_Web___init__ := topMt_mk a_Web___init__ i_Web___init__ l_Web___init__ q_Web___init__ k_Web___init__ (fun _ _ _ _ _ _ us hl => match us, hl with | [_, _, _], _ => rfl),
    f_Web_ties := topMt_mk a_Web_ties i_Web_ties l_Web_ties q_Web_ties k_Web_ties (fun _ _ _ _ _ _ us hl => match us, hl with | [_], _ => rfl),
    f_put_into_row := topFn_mk X G a_put_into_row l_put_into_row q_put_into_row k_put_into_row (fun _ _ _ _ _ _ us hl => match us, hl with | [_, _], _ => rfl),
    f_Web_turns := topMt_mk a_Web_turns i_Web_turns l_Web_turns q_Web_turns k_Web_turns (fun _ _ _ _ _ _ us hl => match us, hl with | [_], _ => rfl),
    f__law_digit := topFn_mk X G a__law_digit l__law_digit q__law_digit k__law_digit (fun _ _ _ _ _ _ us hl => match us, hl with | [_, _], _ => rfl),
    f__law_name := topFn_mk X G a__law_name l__law_name q__law_name k__law_name (fun _ _ _ _ _ _ us hl => match us, hl with | [_], _ => rfl),
    f__law_hands := topFn_mk X G a__law_hands l__law_hands q__law_hands k__law_hands (fun _ _ _ _ _ _ us hl => match us, hl with | [_, _], _ => rfl),
    f__law_ties := topFn_mk X G a__law_ties l__law_ties q__law_ties k__law_ties (fun _ _ _ _ _ _ us hl => match us, hl with | [_, _], _ => rfl),
    f__law_first := topFn_mk X G a__law_first l__law_first q__law_first k__law_first (fun _ _ _ _ _ _ us hl => match us, hl with | [_, _], _ => rfl),
    f__law_due := topFn_mk X G a__law_due l__law_due q__law_due k__law_due (fun _ _ _ _ _ _ us hl => match us, hl with | [_], _ => rfl),
    f_law := topFn_mk X G a_law l_law q_law k_law (fun _ _ _ _ _ _ us hl => match us, hl with | [_], _ => rfl),
    b_all := PySem.W.mg_none_of X G b_all,
    b_any := PySem.W.mg_none_of X G b_any,
    b_bool := PySem.W.mg_none_of X G b_bool,
    b_dict := PySem.W.mg_none_of X G b_dict,
    b_int := PySem.W.mg_none_of X G b_int,
    b_isinstance := PySem.W.mg_none_of X G b_isinstance,
    b_len := PySem.W.mg_none_of X G b_len,
    b_list := PySem.W.mg_none_of X G b_list,
    b_max := PySem.W.mg_none_of X G b_max,
    b_range := PySem.W.mg_none_of X G b_range,
    b_set := PySem.W.mg_none_of X G b_set,
    b_sorted := PySem.W.mg_none_of X G b_sorted,
    b_str := PySem.W.mg_none_of X G b_str,
    b_sum := PySem.W.mg_none_of X G b_sum,
    b_tuple := PySem.W.mg_none_of X G b_tuple,
    k_LETTERS := const_str X G a_LETTERS,
    k_MOST_HANDS := const_int X G a_MOST_HANDS,
    k_MOST_STRENGTH := const_int X G a_MOST_STRENGTH,
    x_NoWeb := ⟨PySem.W.mg_of X G a_NoWeb, xx_NoWeb, xk_NoWeb, xb_NoWeb, xt_NoWeb⟩,
    c_Web := ⟨kpg_Web, khd_Web, kpo_Web, ksa_Web⟩,
    n_Web_pairs := n_Web_pairs,
    n_Web_strong := n_Web_strong,
    mk_Web := mk_Web,
    kp_Web := kp_Web,
    m_Web := PySem.W.mg_of X G a_Web }
  cases hfa.symm.trans (PySem.W.mg_of X G a_law)
  exact ⟨_, fun s v => .of_eq rfl, fun base _ _ => (ok_law T (fun_mk (st := top 28) l_law q_law k_law)).imp fun _ _ _ _ h => law_sp law_holds h⟩
end LW
open PySem PySem.W PyProof.Rows in
set_option maxRecDepth 100000 in
set_option maxHeartbeats 0 in
theorem PySem.Challenge.cw_evenpieces_k02_turns_of_ties_holds : PySem.Challenge.rw_evenpieces_k02_turns_of_ties.Holds := by
  refine LWH.pack.2 ?_
  unfold LWH.pack
  dsimp only
  refine VL.walk (l := PySem.Challenge.rw_evenpieces_k02_turns_of_ties) (k := 7) rfl rfl ⟨rfl, by decide, by decide⟩ (fun w h Y => PySem.W.kIn_of Y) ?F
  case F =>
    intro w mg fa h KX G hmg
    refine' LW.all_mk KX G hmg ?a_is_whole ?l_is_whole ?q_is_whole ?k_is_whole ?a_is_within ?l_is_within ?q_is_within ?k_is_within ?a_is_name ?l_is_name ?q_is_name ?k_is_name ?a_is_hand_row ?l_is_hand_row ?q_is_hand_row ?k_is_hand_row ?a_is_pair ?l_is_pair ?q_is_pair ?k_is_pair ?a_sorted_pair ?l_sorted_pair ?q_sorted_pair ?k_sorted_pair ?a_sure ?l_sure ?q_sure ?k_sure ?a_strengths_of ?l_strengths_of ?q_strengths_of ?k_strengths_of ?a_pairs_of ?l_pairs_of ?q_pairs_of ?k_pairs_of ?a_Web___init__ ?i_Web___init__ ?l_Web___init__ ?q_Web___init__ ?k_Web___init__ ?a_Web_ties ?i_Web_ties ?l_Web_ties ?q_Web_ties ?k_Web_ties ?a_put_into_row ?l_put_into_row ?q_put_into_row ?k_put_into_row ?a_Web_turns ?i_Web_turns ?l_Web_turns ?q_Web_turns ?k_Web_turns ?a__law_digit ?l__law_digit ?q__law_digit ?k__law_digit ?a__law_name ?l__law_name ?q__law_name ?k__law_name ?a__law_hands ?l__law_hands ?q__law_hands ?k__law_hands ?a__law_ties ?l__law_ties ?q__law_ties ?k__law_ties ?a__law_first ?l__law_first ?q__law_first ?k__law_first ?a__law_due ?l__law_due ?q__law_due ?k__law_due ?a_law ?l_law ?q_law ?k_law ?b_all ?b_any ?b_bool ?b_dict ?b_int ?b_isinstance ?b_len ?b_list ?b_max ?b_range ?b_set ?b_sorted ?b_str ?b_sum ?b_tuple ?a_LETTERS ?a_MOST_HANDS ?a_MOST_STRENGTH ?a_NoWeb ?xx_NoWeb ?xk_NoWeb ?xb_NoWeb ?xt_NoWeb ?a_Web ?kpg_Web ?khd_Web ?kpo_Web ?ksa_Web ?n_Web_pairs ?n_Web_strong ?mk_Web ?kp_Web
    (case a_is_whole => k_is)
    (case a_is_within => k_is)
    (case a_is_name => k_is)
    (case a_is_hand_row => k_is)
    (case a_is_pair => k_is)
    (case a_sorted_pair => k_is)
    (case a_sure => k_is)
    (case a_strengths_of => k_is)
    (case a_pairs_of => k_is)
    (case a_put_into_row => k_is)
    (case a__law_digit => k_is)
    (case a__law_name => k_is)
    (case a__law_hands => k_is)
    (case a__law_ties => k_is)
    (case a__law_first => k_is)
    (case a__law_due => k_is)
    (case a_law => k_is)
    (case b_all => k_is)
    (case b_any => k_is)
    (case b_bool => k_is)
    (case b_dict => k_is)
    (case b_int => k_is)
    (case b_isinstance => k_is)
    (case b_len => k_is)
    (case b_list => k_is)
    (case b_max => k_is)
    (case b_range => k_is)
    (case b_set => k_is)
    (case b_sorted => k_is)
    (case b_str => k_is)
    (case b_sum => k_is)
    (case b_tuple => k_is)
    (case a_LETTERS => k_is)
    (case a_MOST_HANDS => k_is)
    (case a_MOST_STRENGTH => k_is)
    (case a_NoWeb => k_is)
    (case a_Web => k_is)
    (case l_is_whole => k_is)
    (case q_is_whole => k_is)
    (case k_is_whole => k_is)
    (case l_is_within => k_is)
    (case q_is_within => k_is)
    (case k_is_within => k_is)
    (case l_is_name => k_is)
    (case q_is_name => k_is)
    (case k_is_name => k_is)
    (case l_is_hand_row => k_is)
    (case q_is_hand_row => k_is)
    (case k_is_hand_row => k_is)
    (case l_is_pair => k_is)
    (case q_is_pair => k_is)
    (case k_is_pair => k_is)
    (case l_sorted_pair => k_is)
    (case q_sorted_pair => k_is)
    (case k_sorted_pair => k_is)
    (case l_sure => k_is)
    (case q_sure => k_is)
    (case k_sure => k_is)
    (case l_strengths_of => k_is)
    (case q_strengths_of => k_is)
    (case k_strengths_of => k_is)
    (case l_pairs_of => k_is)
    (case q_pairs_of => k_is)
    (case k_pairs_of => k_is)
    (case a_Web___init__ => k_is)
    (case i_Web___init__ => k_is)
    (case l_Web___init__ => k_is)
    (case q_Web___init__ => k_is)
    (case k_Web___init__ => k_is)
    (case a_Web_ties => k_is)
    (case i_Web_ties => k_is)
    (case l_Web_ties => k_is)
    (case q_Web_ties => k_is)
    (case k_Web_ties => k_is)
    (case l_put_into_row => k_is)
    (case q_put_into_row => k_is)
    (case k_put_into_row => k_is)
    (case a_Web_turns => k_is)
    (case i_Web_turns => k_is)
    (case l_Web_turns => k_is)
    (case q_Web_turns => k_is)
    (case k_Web_turns => k_is)
    (case l__law_digit => k_is)
    (case q__law_digit => k_is)
    (case k__law_digit => k_is)
    (case l__law_name => k_is)
    (case q__law_name => k_is)
    (case k__law_name => k_is)
    (case l__law_hands => k_is)
    (case q__law_hands => k_is)
    (case k__law_hands => k_is)
    (case l__law_ties => k_is)
    (case q__law_ties => k_is)
    (case k__law_ties => k_is)
    (case l__law_first => k_is)
    (case q__law_first => k_is)
    (case k__law_first => k_is)
    (case l__law_due => k_is)
    (case q__law_due => k_is)
    (case k__law_due => k_is)
    (case l_law => k_is)
    (case q_law => k_is)
    (case k_law => k_is)
    (case xx_NoWeb => k_exc)
    (case xk_NoWeb => k_is)
    (case xb_NoWeb => k_is)
    (case xt_NoWeb => k_is)
    (case kpg_Web => k_is)
    (case khd_Web => k_is)
    (case kpo_Web => k_is)
    (case ksa_Web => k_is)
    (case n_Web_pairs => k_is)
    (case n_Web_strong => k_is)
    (case mk_Web => k_is)
    (case kp_Web => k_is)
#print axioms PySem.Challenge.cw_evenpieces_k02_turns_of_ties_holds
