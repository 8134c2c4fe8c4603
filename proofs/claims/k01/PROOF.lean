import PyProof.Rows.All
import Wide.All
import OpenK.AllK
import Wide.FinOn
import HandS.ForMost
import HandS.Exc
import HandS.TryOnly
import HandS.TryMany
import HandS.ExcOwn
import HandS.WordsExc
import HandS.IsInst
import HandS.ExcIs
import HandS.Deep
import HandS.Style
import HandS.Wide
import HandS.TupAny
import HandS.TupLen
import HandS.TupSets
import HandS.WordsDict
import HandS.ListItems
import HandS.More
import HandS.Conv
import KE.SortData
import PySem.Challenge.RW_evenpieces_k01_webs_told
set_option Elab.async false
set_option linter.all false
set_option maxRecDepth 100000
set_option maxHeartbeats 4000000

/-! VL: a layer over HandS in which a def is a function on trees. What is owned by a place is a tree there; nothing owned is named twice. -/
namespace VL
open PySem PySem.Spec PyProof.Rows L2

/-- what is known of a node: owned by its place; new, in no place yet; settled for good; lent by the caller; a locked list or one of the text -/
inductive Fl where
  | own | new | frz | bor | loc
  deriving DecidableEq
/-- a key of a dict: an int or a text; a tuple of such -/
inductive Kd where
  | k (x : Key) | t (xs : List Key)
  deriving DecidableEq
abbrev kS (x : Str) : Kd := .k (.inr x)
abbrev kI (i : Int) : Kd := .k (.inl i)
inductive D where
  | non | bl (b : Bool) | int (i : Int) | str (x : Str) | ty (n : String) | ref (a : Addr)
  | tup (xs : List D) | tuk (xs : List D) | lst (f : Fl) (xs : List D) | dic (f : Fl) (kvs : List (Kd × D)) | dit (f : Fl) (kvs : List (Kd × D)) | obj (f : Fl) (C : Addr) (fs : List (Kd × D))
def D.root : D → Option Fl
  | .lst f _ => some f
  | .dic f _ => some f
  | .dit f _ => some f
  | .obj f _ _ => some f
  | _ => none
/-- no new root -/
abbrev D.old (d : D) : Prop := d.root ≠ some .new
/-- a place: nothing, a tree, or the j-th thing that the def may change -/
inductive Sl where
  | no | val (d : D) | arg (j : Nat)
abbrev Rho := List Sl
structure Exn where
  cls : Value
  flds : Option (List (Kd × D)) := none

/-! ### outcomes -/
inductive Out (ε α : Type) where
  | ok (a : α) | ex (e : ε) | no
namespace Out
variable {ε α β : Type}
def bind : Out ε α → (α → Out ε β) → Out ε β
  | .ok a, f => f a
  | .ex e, _ => .ex e
  | .no, _ => .no
def P : Out ε α → (α → Prop) → (ε → Prop) → Prop
  | .ok a, P, _ => P a
  | .ex e, _, E => E e
  | .no, _, _ => False
theorem P_bind {o : Out ε α} {f : α → Out ε β} {P : β → Prop} {E : ε → Prop} : (o.bind f).P P E ↔ o.P (fun a => (f a).P P E) E := by
  cases o <;> exact Iff.rfl
theorem P_mono {o : Out ε α} {P P' : α → Prop} {E E' : ε → Prop} (h : o.P P E) (h1 : ∀ a, P a → P' a) (h2 : ∀ e, E e → E' e) : o.P P' E' := by
  cases o with
  | ok a => exact h1 a h
  | ex e => exact h2 e h
  | no => exact h
end Out

/-! ### flags -/
mutual
def D.mapF (g : Fl → Fl) : D → D
  | .tup xs => .tup (D.mapFL g xs)
  | .tuk xs => .tuk (D.mapFL g xs)
  | .lst f xs => .lst (g f) (D.mapFL g xs)
  | .dic f xs => .dic (g f) (D.mapFK g xs)
  | .dit f xs => .dit (g f) (D.mapFK g xs)
  | .obj f C xs => .obj (g f) C (D.mapFK g xs)
  | .non => .non
  | .bl b => .bl b
  | .int i => .int i
  | .str x => .str x
  | .ty n => .ty n
  | .ref a => .ref a
def D.mapFL (g : Fl → Fl) : List D → List D
  | [] => []
  | d :: ds => D.mapF g d :: D.mapFL g ds
def D.mapFK (g : Fl → Fl) : List (Kd × D) → List (Kd × D)
  | [] => []
  | (k, d) :: ds => (k, D.mapF g d) :: D.mapFK g ds
end
mutual
def D.allF (p : Fl → Bool) : D → Bool
  | .tup xs => D.allFL p xs
  | .tuk xs => D.allFL p xs
  | .lst f xs => p f && D.allFL p xs
  | .dic f xs => p f && D.allFK p xs
  | .dit f xs => p f && D.allFK p xs
  | .obj f _ xs => p f && D.allFK p xs
  | _ => true
def D.allFL (p : Fl → Bool) : List D → Bool
  | [] => true
  | d :: ds => D.allF p d && D.allFL p ds
def D.allFK (p : Fl → Bool) : List (Kd × D) → Bool
  | [] => true
  | (_, d) :: ds => D.allF p d && D.allFK p ds
end
theorem mapFL_eq {g : Fl → Fl} : ∀ xs : List D, D.mapFL g xs = xs.map (D.mapF g)
  | [] => rfl
  | x :: xs => by rw [D.mapFL, mapFL_eq xs]; rfl
theorem mapFK_eq {g : Fl → Fl} : ∀ xs : List (Kd × D), D.mapFK g xs = xs.map fun e => (e.1, D.mapF g e.2)
  | [] => rfl
  | (k, x) :: xs => by rw [D.mapFK, mapFK_eq xs]; rfl
theorem allFL_eq {p : Fl → Bool} : ∀ xs : List D, D.allFL p xs = xs.all (D.allF p)
  | [] => rfl
  | x :: xs => by rw [D.allFL, allFL_eq xs]; rfl
theorem allFK_eq {p : Fl → Bool} : ∀ xs : List (Kd × D), D.allFK p xs = xs.all fun e => D.allF p e.2
  | [] => rfl
  | (k, x) :: xs => by rw [D.allFK, allFK_eq xs]; rfl
def plainF : Fl → Bool := fun _ => false
/-- no lists, dicts, instances in it -/
abbrev D.plain (d : D) : Bool := d.allF plainF
def keepF : Fl → Bool
  | .frz => true
  | _ => false
/-- settled through and through -/
abbrev D.kept (d : D) : Bool := d.allF keepF
def ownF : Fl → Bool
  | .own => false
  | .new => false
  | _ => true
abbrev D.noOwn (d : D) : Bool := d.allF ownF
def borF : Fl → Bool
  | .own => true
  | .frz => true
  | _ => false
/-- nothing lent, nothing new -/
abbrev D.noBor (d : D) : Bool := d.allF borF
def viewF : Fl → Fl
  | .loc => .loc
  | _ => .bor
/-- as it is lent -/
abbrev D.view (d : D) : D := d.mapF viewF
def fzF : Fl → Fl
  | .own => .frz
  | .new => .frz
  | f => f
/-- as it is settled -/
abbrev D.fz (d : D) : D := d.mapF fzF
mutual
theorem allF_mono {p q : Fl → Bool} (h : ∀ f, p f = true → q f = true) : ∀ d : D, d.allF p = true → d.allF q = true
  | .tup xs, e => by rw [D.allF] at e ⊢; exact allFL_mono h xs e
  | .tuk xs, e => by rw [D.allF] at e ⊢; exact allFL_mono h xs e
  | .lst f xs, e => by
    rw [D.allF, Bool.and_eq_true] at e ⊢
    exact ⟨h f e.1, allFL_mono h xs e.2⟩
  | .dic f xs, e => by
    rw [D.allF, Bool.and_eq_true] at e ⊢
    exact ⟨h f e.1, allFK_mono h xs e.2⟩
  | .dit f xs, e => by
    rw [D.allF, Bool.and_eq_true] at e ⊢
    exact ⟨h f e.1, allFK_mono h xs e.2⟩
  | .obj f C xs, e => by
    rw [D.allF, Bool.and_eq_true] at e ⊢
    exact ⟨h f e.1, allFK_mono h xs e.2⟩
  | .non, _ => rfl
  | .bl _, _ => rfl
  | .int _, _ => rfl
  | .str _, _ => rfl
  | .ty _, _ => rfl
  | .ref _, _ => rfl
theorem allFL_mono {p q : Fl → Bool} (h : ∀ f, p f = true → q f = true) : ∀ ds : List D, D.allFL p ds = true → D.allFL q ds = true
  | [], _ => rfl
  | d :: ds, e => by
    rw [D.allFL, Bool.and_eq_true] at e ⊢
    exact ⟨allF_mono h d e.1, allFL_mono h ds e.2⟩
theorem allFK_mono {p q : Fl → Bool} (h : ∀ f, p f = true → q f = true) : ∀ ds : List (Kd × D), D.allFK p ds = true → D.allFK q ds = true
  | [], _ => rfl
  | (k, d) :: ds, e => by
    rw [D.allFK, Bool.and_eq_true] at e ⊢
    exact ⟨allF_mono h d e.1, allFK_mono h ds e.2⟩
end
theorem allF_plain {p : Fl → Bool} {d : D} (h : d.plain = true) : d.allF p = true := allF_mono (fun f e => by simp [plainF] at e) d h
mutual
theorem mapF_plain {g : Fl → Fl} : ∀ {d : D}, d.plain = true → d.mapF g = d
  | .tup xs, e => by rw [D.mapF, mapFL_plain (show D.allFL plainF xs = true by simpa [D.plain, D.allF] using e)]
  | .tuk xs, e => by rw [D.mapF, mapFL_plain (show D.allFL plainF xs = true by simpa [D.plain, D.allF] using e)]
  | .lst f xs, e => by simp [D.plain, D.allF, plainF] at e
  | .dic f xs, e => by simp [D.plain, D.allF, plainF] at e
  | .dit f xs, e => by simp [D.plain, D.allF, plainF] at e
  | .obj f C xs, e => by simp [D.plain, D.allF, plainF] at e
  | .non, _ => rfl
  | .bl _, _ => rfl
  | .int _, _ => rfl
  | .str _, _ => rfl
  | .ty _, _ => rfl
  | .ref _, _ => rfl
theorem mapFL_plain {g : Fl → Fl} : ∀ {ds : List D}, D.allFL plainF ds = true → D.mapFL g ds = ds
  | [], _ => rfl
  | d :: ds, e => by
    rw [D.allFL, Bool.and_eq_true] at e
    rw [D.mapFL, mapF_plain e.1, mapFL_plain e.2]
end

/-! ### trees in memory -/
def Nd (G B H : Hp) : Fl → Addr → HO → Prop
  | .own, p, o => H p = some o
  | .new, p, o => H p = some o
  | .frz, p, o => G p = some o
  | .bor, p, o => B p = some o ∨ G p = some o
  | .loc, _, _ => False
/-- .. or it is locked (a dict that is walked) -/
def NdR (G B H : Hp) (f : Fl) (p : Addr) (o : HO) : Prop := Nd G B H f p o ∨ (f ≠ .new ∧ ∃ ob, Nd G B H f p (.frz ob o))
def Fl.ad : Fl → Addr → List Addr
  | .own, p => [p]
  | .new, p => [p]
  | _, _ => []
def kK (e : Key × V) : Kd × V := (.k e.1, e.2)
def kT (e : List Key × V) : Kd × V := (.t e.1, e.2)
def kF (e : Str × V) : Kd × V := (kS e.1, e.2)
/-- a tuple that was laid, or the text's own nought, (0, 1) -/
def TupO (K : PySem.W.Frag) (G : Hp) (p : Addr) (vs : List V) : Prop := G p = some (.tup vs) ∨ (vs = [.int 0, .int 1] ∧ SqT K G p vs)
mutual
/-- the value v is the tree d: settled nodes stand in G, lent ones in B, owned and new ones in H, at the addresses told -/
inductive Dat (K : PySem.W.Frag) (G B H : Hp) : List Addr → V → D → Prop
  | non : Dat K G B H [] .non .non
  | bl (b : Bool) : Dat K G B H [] (.bl b) (.bl b)
  | int (i : Int) : Dat K G B H [] (.int i) (.int i)
  | str (x : Str) : Dat K G B H [] (.str x) (.str x)
  | ty (n : String) : Dat K G B H [] (.ty n) (.ty n)
  | ref (a : Addr) : Dat K G B H [] (.ref a) (.ref a)
  | tup {S : List Addr} {p : Addr} {vs : List V} {ds : List D} (h : TupO K G p vs) (hs : Dats K G B H S vs ds) : Dat K G B H S (.ref p) (.tup ds)
  | tuk {S : List Addr} {p : Addr} {vs : List V} {ds : List D} (h : SqT K G p vs) (hs : Dats K G B H S vs ds) : Dat K G B H S (.ref p) (.tuk ds)
  | lst {S : List Addr} {f : Fl} {p : Addr} {vs : List V} {ds : List D} (h : Nd G B H f p (.lst vs)) (hs : Dats K G B H S vs ds) : Dat K G B H (f.ad p ++ S) (.ref p) (.lst f ds)
  | lok {S : List Addr} {p : Addr} {vs : List V} {ds : List D} (h : SqL K B p vs ∨ SqL K G p vs) (hs : Dats K G B H S vs ds) : Dat K G B H S (.ref p) (.lst .loc ds)
  | dic {S : List Addr} {f : Fl} {p : Addr} {vs : List (Key × V)} {ds : List (Kd × D)} (h : NdR G B H f p (.dK vs)) (hs : DatM K G B H S (vs.map kK) ds) : Dat K G B H (f.ad p ++ S) (.ref p) (.dic f ds)
  | dit {S : List Addr} {f : Fl} {p : Addr} {vs : List (List Key × V)} {ds : List (Kd × D)} (h : NdR G B H f p (.dT vs)) (hs : DatM K G B H S (vs.map kT) ds) : Dat K G B H (f.ad p ++ S) (.ref p) (.dit f ds)
  | obj {S : List Addr} {f : Fl} {p C dx : Addr} {vs : List (Str × V)} {ds : List (Kd × D)} (h : Nd G B H f p (.ins C dx vs)) (hs : DatM K G B H S (vs.map kF) ds) : Dat K G B H (f.ad p ++ S) (.ref p) (.obj f C ds)
inductive Dats (K : PySem.W.Frag) (G B H : Hp) : List Addr → List V → List D → Prop
  | nil : Dats K G B H [] [] []
  | cons {S T : List Addr} {v : V} {d : D} {vs : List V} {ds : List D} (n : d.old) (h : Dat K G B H S v d) (t : Dats K G B H T vs ds) : Dats K G B H (S ++ T) (v :: vs) (d :: ds)
inductive DatM (K : PySem.W.Frag) (G B H : Hp) : List Addr → List (Kd × V) → List (Kd × D) → Prop
  | nil : DatM K G B H [] [] []
  | cons {S T : List Addr} {k : Kd} {v : V} {d : D} {vs : List (Kd × V)} {ds : List (Kd × D)} (n : d.old) (h : Dat K G B H S v d) (t : DatM K G B H T vs ds) : DatM K G B H (S ++ T) ((k, v) :: vs) ((k, d) :: ds)
end
theorem Same.rd {G G' : Hp} (s : Same G G') {a : Addr} {u : HO} (h : Rd G a u) : Rd G' a u := by
  rcases h with h | ⟨o, h⟩
  · exact .inl (s _ _ h)
  · exact .inr ⟨o, s _ _ h⟩
theorem Same.sqT {K : PySem.W.Frag} {G G' : Hp} (s : Same G G') {a : Addr} {xs : List V} (h : SqT K G a xs) : SqT K G' a xs := by
  rcases h with h | h
  · exact .inl (Same.rd s h)
  · exact .inr h
theorem TupO.mono {K : PySem.W.Frag} {G G' : Hp} (s : Same G G') {a : Addr} {xs : List V} (h : TupO K G a xs) : TupO K G' a xs := h.imp (s _ _) fun ⟨e, h⟩ => ⟨e, Same.sqT s h⟩
theorem TupO.sq {K : PySem.W.Frag} {G : Hp} {a : Addr} {xs : List V} (h : TupO K G a xs) : SqT K G a xs := h.elim SqT.of fun h => h.2
/-- what stands at the addresses S is kept -/
def On (S : List Addr) (H H' : Hp) : Prop := ∀ a ∈ S, ∀ o, H a = some o → H' a = some o
theorem On.of {S : List Addr} {H H' : Hp} (s : Same H H') : On S H H' := fun a _ o e => s a o e
theorem On.l {S T : List Addr} {H H' : Hp} (h : On (S ++ T) H H') : On S H H' := fun a m => h a (List.mem_append_left _ m)
theorem On.r {S T : List Addr} {H H' : Hp} (h : On (S ++ T) H H') : On T H H' := fun a m => h a (List.mem_append_right _ m)
theorem Nd.mono {G B H G' B' H' : Hp} (g : Same G G') (b : Same B B') {f : Fl} {p : Addr} {o : HO} {S : List Addr} (h : On (f.ad p ++ S) H H') (n : Nd G B H f p o) : Nd G' B' H' f p o := by
  cases f with
  | own => exact h p (by simp [Fl.ad]) o n
  | new => exact h p (by simp [Fl.ad]) o n
  | frz => exact g p o n
  | bor => rcases n with n | n
           · exact .inl (b p o n)
           · exact .inr (g p o n)
  | loc => exact n
theorem NdR.mono {G B H G' B' H' : Hp} (g : Same G G') (b : Same B B') {f : Fl} {p : Addr} {o : HO} {S : List Addr} (h : On (f.ad p ++ S) H H') (n : NdR G B H f p o) : NdR G' B' H' f p o := by
  rcases n with n | ⟨nn, ob, n⟩
  · exact .inl (n.mono g b h)
  · exact .inr ⟨nn, ob, n.mono g b h⟩
mutual
theorem Dat.mono {K : PySem.W.Frag} {G B H G' B' H' : Hp} (g : Same G G') (b : Same B B') : ∀ {S : List Addr} {v : V} {d : D}, On S H H' → Dat K G B H S v d → Dat K G' B' H' S v d
  | _, _, _, _, .non => .non
  | _, _, _, _, .bl b => .bl b
  | _, _, _, _, .int i => .int i
  | _, _, _, _, .str x => .str x
  | _, _, _, _, .ty n => .ty n
  | _, _, _, _, .ref a => .ref a
  | _, _, _, o, .tup h hs => .tup (h.mono g) (Dats.mono g b o hs)
  | _, _, _, o, .tuk h hs => .tuk (Same.sqT g h) (Dats.mono g b o hs)
  | _, _, _, o, .lst h hs => .lst (Nd.mono g b o h) (Dats.mono g b o.r hs)
  | _, _, _, o, .lok h hs => .lok (h.imp b.seq g.seq) (Dats.mono g b o hs)
  | _, _, _, o, .dic h hs => .dic (NdR.mono g b o h) (DatM.mono g b o.r hs)
  | _, _, _, o, .dit h hs => .dit (NdR.mono g b o h) (DatM.mono g b o.r hs)
  | _, _, _, o, .obj h hs => .obj (Nd.mono g b o h) (DatM.mono g b o.r hs)
theorem Dats.mono {K : PySem.W.Frag} {G B H G' B' H' : Hp} (g : Same G G') (b : Same B B') : ∀ {S : List Addr} {v : List V} {d : List D}, On S H H' → Dats K G B H S v d → Dats K G' B' H' S v d
  | _, _, _, _, .nil => .nil
  | _, _, _, o, .cons n h t => .cons n (Dat.mono g b o.l h) (Dats.mono g b o.r t)
theorem DatM.mono {K : PySem.W.Frag} {G B H G' B' H' : Hp} (g : Same G G') (b : Same B B') : ∀ {S : List Addr} {v : List (Kd × V)} {d : List (Kd × D)}, On S H H' → DatM K G B H S v d → DatM K G' B' H' S v d
  | _, _, _, _, .nil => .nil
  | _, _, _, o, .cons n h t => .cons n (Dat.mono g b o.l h) (DatM.mono g b o.r t)
end
theorem Dats.length {K : PySem.W.Frag} {G B H : Hp} : ∀ {S : List Addr} {vs : List V} {ds : List D}, Dats K G B H S vs ds → vs.length = ds.length
  | _, _, _, .nil => rfl
  | _, _, _, .cons _ _ t => congrArg (· + 1) (Dats.length t)
theorem DatM.length {K : PySem.W.Frag} {G B H : Hp} : ∀ {S : List Addr} {vs : List (Kd × V)} {ds : List (Kd × D)}, DatM K G B H S vs ds → vs.length = ds.length
  | _, _, _, .nil => rfl
  | _, _, _, .cons _ _ t => congrArg (· + 1) (DatM.length t)
theorem ad_nil {f : Fl} {p : Addr} (h : ownF f = true) : f.ad p = [] := by cases f <;> first | rfl | cases h
mutual
/-- what owns nothing leans on no address -/
theorem Dat.noS {K : PySem.W.Frag} {G B H : Hp} : ∀ {S : List Addr} {v : V} {d : D}, Dat K G B H S v d → d.noOwn = true → S = []
  | _, _, _, .non, _ => rfl
  | _, _, _, .bl b, _ => rfl
  | _, _, _, .int i, _ => rfl
  | _, _, _, .str x, _ => rfl
  | _, _, _, .ty n, _ => rfl
  | _, _, _, .ref a, _ => rfl
  | _, _, _, .tup h hs, e => Dats.noS hs (by simpa [D.noOwn, D.allF] using e)
  | _, _, _, .tuk h hs, e => Dats.noS hs (by simpa [D.noOwn, D.allF] using e)
  | _, _, _, .lst h hs, e => by
    simp only [D.noOwn, D.allF, Bool.and_eq_true] at e
    rw [ad_nil e.1, Dats.noS hs e.2] <;> rfl
  | _, _, _, .lok h hs, e => by
    simp only [D.noOwn, D.allF, Bool.and_eq_true] at e
    exact Dats.noS hs e.2
  | _, _, _, .dic h hs, e => by
    simp only [D.noOwn, D.allF, Bool.and_eq_true] at e
    rw [ad_nil e.1, DatM.noS hs e.2] <;> rfl
  | _, _, _, .dit h hs, e => by
    simp only [D.noOwn, D.allF, Bool.and_eq_true] at e
    rw [ad_nil e.1, DatM.noS hs e.2] <;> rfl
  | _, _, _, .obj h hs, e => by
    simp only [D.noOwn, D.allF, Bool.and_eq_true] at e
    rw [ad_nil e.1, DatM.noS hs e.2] <;> rfl
theorem Dats.noS {K : PySem.W.Frag} {G B H : Hp} : ∀ {S : List Addr} {v : List V} {d : List D}, Dats K G B H S v d → D.allFL ownF d = true → S = []
  | _, _, _, .nil, _ => rfl
  | _, _, _, .cons _ h t, e => by
    rw [D.allFL, Bool.and_eq_true] at e
    rw [Dat.noS h e.1, Dats.noS t e.2] <;> rfl
theorem DatM.noS {K : PySem.W.Frag} {G B H : Hp} : ∀ {S : List Addr} {v : List (Kd × V)} {d : List (Kd × D)}, DatM K G B H S v d → D.allFK ownF d = true → S = []
  | _, _, _, .nil, _ => rfl
  | _, _, _, .cons _ h t, e => by
    rw [D.allFK, Bool.and_eq_true] at e
    rw [Dat.noS h e.1, DatM.noS t e.2] <;> rfl
end
mutual
/-- what owns nothing does not hang on what is owned -/
theorem Dat.anyH {K : PySem.W.Frag} {G B H H' : Hp} {S : List Addr} {v : V} {d : D} (h : Dat K G B H S v d) (e : d.noOwn = true) : Dat K G B H' [] v d := by
  have s := h.noS e
  subst s
  exact h.mono (fun _ _ q => q) (fun _ _ q => q) fun a m => by cases m
end
/-- the tree's nodes may be read -/
def Nh (K : PySem.W.Frag) (G B H : Hp) : Prop := Same G H ∧ Same B H
theorem Nd.here {G B H : Hp} {f : Fl} {p : Addr} {o : HO} (g : Same G H) (b : Same B H) (n : Nd G B H f p o) : H p = some o := by
  cases f with
  | own => exact n
  | new => exact n
  | frz => exact g p o n
  | bor => rcases n with n | n
           · exact b p o n
           · exact g p o n
  | loc => exact n.elim
theorem root_mapF {g : Fl → Fl} (gn : ∀ f, g f ≠ .new) (d : D) : (d.mapF g).old := by
  cases d with
  | lst f _ => simpa [D.root, D.mapF] using gn f
  | dic f _ => simpa [D.root, D.mapF] using gn f
  | dit f _ => simpa [D.root, D.mapF] using gn f
  | obj f _ _ => simpa [D.root, D.mapF] using gn f
  | _ => simp [D.root, D.mapF]
theorem NdR.here {G B H : Hp} {f : Fl} {p : Addr} {o : HO} (g : Same G H) (b : Same B H) (n : NdR G B H f p o) : Rd H p o := by
  rcases n with n | ⟨nn, ob, n⟩
  · exact .inl (n.here g b)
  · exact .inr ⟨ob, n.here g b⟩
/-- a change of flags, the nodes being found -/
def Turn (G B H G' B' H' : Hp) (S : List Addr) (g : Fl → Fl) : Prop := ∀ (f : Fl) (p : Addr) (o : HO), Nd G B H f p o → (∀ a ∈ f.ad p, a ∈ S) → Nd G' B' H' (g f) p o ∧ (g f).ad p = []
theorem Turn.l {G B H G' B' H' : Hp} {S T : List Addr} {g : Fl → Fl} (h : Turn G B H G' B' H' (S ++ T) g) : Turn G B H G' B' H' S g := fun f p o n m => h f p o n fun a q => List.mem_append_left _ (m a q)
theorem Turn.r {G B H G' B' H' : Hp} {S T : List Addr} {g : Fl → Fl} (h : Turn G B H G' B' H' (S ++ T) g) : Turn G B H G' B' H' T g := fun f p o n m => h f p o n fun a q => List.mem_append_right _ (m a q)
theorem Turn.rd {G B H G' B' H' : Hp} {S : List Addr} {g : Fl → Fl} (gn : ∀ f, g f ≠ .new) (t : Turn G B H G' B' H' S g) {f : Fl} {p : Addr} {o : HO} (n : NdR G B H f p o) (m : ∀ a ∈ f.ad p, a ∈ S) : NdR G' B' H' (g f) p o ∧ (g f).ad p = [] := by
  rcases n with n | ⟨nn, ob, n⟩
  · exact ⟨.inl (t _ _ _ n m).1, (t _ _ _ n m).2⟩
  · exact ⟨.inr ⟨gn f, ob, (t _ _ _ n m).1⟩, (t _ _ _ n m).2⟩
mutual
theorem Dat.turn {K : PySem.W.Frag} {G B H G' B' H' : Hp} {g : Fl → Fl} (sg : Same G G') (lk : ∀ p vs, SqL K B p vs ∨ SqL K G p vs → SqL K B' p vs ∨ SqL K G' p vs) (gl : g .loc = .loc) (gn : ∀ f, g f ≠ .new) : ∀ {S : List Addr} {v : V} {d : D}, Turn G B H G' B' H' S g → Dat K G B H S v d → Dat K G' B' H' [] v (d.mapF g)
  | _, _, _, _, .non => .non
  | _, _, _, _, .bl b => .bl b
  | _, _, _, _, .int i => .int i
  | _, _, _, _, .str x => .str x
  | _, _, _, _, .ty n => .ty n
  | _, _, _, _, .ref a => .ref a
  | _, _, _, t, .tup h hs => .tup (h.mono sg) (Dats.turn sg lk gl gn t hs)
  | _, _, _, t, .tuk h hs => .tuk (Same.sqT sg h) (Dats.turn sg lk gl gn t hs)
  | _, _, _, t, .lst h hs => by
    obtain ⟨n, e⟩ := t _ _ _ h fun a m => List.mem_append_left _ m
    have := Dat.lst n (Dats.turn sg lk gl gn t.r hs)
    rw [e] at this; exact this
  | _, _, _, t, .lok h hs => by
    have := Dat.lok (lk _ _ h) (Dats.turn sg lk gl gn t hs)
    rw [D.mapF, gl]; exact this
  | _, _, _, t, .dic h hs => by
    obtain ⟨n, e⟩ := t.rd gn h fun a m => List.mem_append_left _ m
    have := Dat.dic n (DatM.turn sg lk gl gn t.r hs)
    rw [e] at this; exact this
  | _, _, _, t, .dit h hs => by
    obtain ⟨n, e⟩ := t.rd gn h fun a m => List.mem_append_left _ m
    have := Dat.dit n (DatM.turn sg lk gl gn t.r hs)
    rw [e] at this; exact this
  | _, _, _, t, .obj h hs => by
    obtain ⟨n, e⟩ := t _ _ _ h fun a m => List.mem_append_left _ m
    have := Dat.obj n (DatM.turn sg lk gl gn t.r hs)
    rw [e] at this; exact this
theorem Dats.turn {K : PySem.W.Frag} {G B H G' B' H' : Hp} {g : Fl → Fl} (sg : Same G G') (lk : ∀ p vs, SqL K B p vs ∨ SqL K G p vs → SqL K B' p vs ∨ SqL K G' p vs) (gl : g .loc = .loc) (gn : ∀ f, g f ≠ .new) : ∀ {S : List Addr} {v : List V} {d : List D}, Turn G B H G' B' H' S g → Dats K G B H S v d → Dats K G' B' H' [] v (D.mapFL g d)
  | _, _, _, _, .nil => .nil
  | _, _, _, t, .cons n h r => by
    have := Dats.cons (root_mapF gn _) (Dat.turn sg lk gl gn t.l h) (Dats.turn sg lk gl gn t.r r)
    exact this
theorem DatM.turn {K : PySem.W.Frag} {G B H G' B' H' : Hp} {g : Fl → Fl} (sg : Same G G') (lk : ∀ p vs, SqL K B p vs ∨ SqL K G p vs → SqL K B' p vs ∨ SqL K G' p vs) (gl : g .loc = .loc) (gn : ∀ f, g f ≠ .new) : ∀ {S : List Addr} {v : List (Kd × V)} {d : List (Kd × D)}, Turn G B H G' B' H' S g → DatM K G B H S v d → DatM K G' B' H' [] v (D.mapFK g d)
  | _, _, _, _, .nil => .nil
  | _, _, _, t, .cons (k := k) n h r => by
    have := DatM.cons (k := k) (root_mapF gn _) (Dat.turn sg lk gl gn t.l h) (DatM.turn sg lk gl gn t.r r)
    exact this
end
end VL

/-! VLb: quiet expressions: they read, and lay new things; no place is changed. -/
namespace VL
open PySem PySem.Spec PyProof.Rows L2

theorem same_upd {G : Hp} {p : Addr} {o : HO} (h : G p = none) : Same G (upd G p o) := fun b u e => by rw [upd_ne (ne_of_none e h)]; exact e
theorem Same.free {G H : Hp} (s : Same G H) {p : Addr} (h : H p = none) : G p = none := by
  cases e : G p with
  | none => rfl
  | some o => rw [s p o e] at h; cases h
/-- what stood stays; what is settled anew is new -/
structure Ext (G H G' H' : Hp) : Prop where
  h : Same H H'
  g : Same G G'
  new : ∀ a o, G' a = some o → G a = some o ∨ H a = none
  gh : Same G' H'
theorem Ext.refl {G H : Hp} (gh : Same G H) : Ext G H G H := ⟨fun _ _ e => e, fun _ _ e => e, fun _ _ e => .inl e, gh⟩
theorem Ext.trans {G H G1 H1 G2 H2 : Hp} (a : Ext G H G1 H1) (b : Ext G1 H1 G2 H2) : Ext G H G2 H2 :=
  ⟨fun p o e => b.h p o (a.h p o e), fun p o e => b.g p o (a.g p o e), fun p o e => by
    rcases b.new p o e with e | e
    · exact a.new p o e
    · exact .inr (Same.free a.h e), b.gh⟩
theorem Ext.lay {G H : Hp} {p : Addr} {o : HO} (gh : Same G H) (hp : H p = none) : Ext G H G (upd H p o) :=
  ⟨same_upd hp, fun _ _ e => e, fun _ _ e => .inl e, fun b u e => by rw [upd_ne (ne_of_none e (Same.free gh hp))]; exact gh b u e⟩
theorem Ext.layG {G H : Hp} {p : Addr} {o : HO} (gh : Same G H) (hp : H p = none) : Ext G H (upd G p o) (upd H p o) := by
  have gp := Same.free gh hp
  refine ⟨same_upd hp, same_upd gp, fun b u e => ?_, fun b u e => ?_⟩
  · by_cases hb : b = p
    · subst hb; exact .inr hp
    · rw [upd_ne hb] at e; exact .inl e
  · by_cases hb : b = p
    · subst hb; rw [upd_same] at e ⊢; exact e
    · rw [upd_ne hb] at e ⊢; exact gh b u e

abbrev Dt (K : PySem.W.Frag) (G B H : Hp) (v : V) (d : D) : Prop := ∃ S, Dat K G B H S v d
abbrev Dts (K : PySem.W.Frag) (G B H : Hp) (v : List V) (d : List D) : Prop := ∃ S, Dats K G B H S v d
abbrev Dtm (K : PySem.W.Frag) (G B H : Hp) (v : List (Kd × V)) (d : List (Kd × D)) : Prop := ∃ S, DatM K G B H S v d
theorem Dt.ext {K : PySem.W.Frag} {G B H G' H' : Hp} {v : V} {d : D} (e : Ext G H G' H') (h : Dt K G B H v d) : Dt K G' B H' v d := let ⟨S, h⟩ := h; ⟨S, h.mono e.g (fun _ _ q => q) (On.of e.h)⟩
theorem Dts.ext {K : PySem.W.Frag} {G B H G' H' : Hp} {v : List V} {d : List D} (e : Ext G H G' H') (h : Dts K G B H v d) : Dts K G' B H' v d := let ⟨S, h⟩ := h; ⟨S, h.mono e.g (fun _ _ q => q) (On.of e.h)⟩
theorem Dtm.ext {K : PySem.W.Frag} {G B H G' H' : Hp} {v : List (Kd × V)} {d : List (Kd × D)} (e : Ext G H G' H') (h : Dtm K G B H v d) : Dtm K G' B H' v d := let ⟨S, h⟩ := h; ⟨S, h.mono e.g (fun _ _ q => q) (On.of e.h)⟩
theorem Dts.nil {K : PySem.W.Frag} {G B H : Hp} : Dts K G B H [] [] := ⟨_, .nil⟩
theorem Dts.cons {K : PySem.W.Frag} {G B H : Hp} {v : V} {d : D} {vs : List V} {ds : List D} (n : d.old) (h : Dt K G B H v d) (t : Dts K G B H vs ds) : Dts K G B H (v :: vs) (d :: ds) := let ⟨_, h⟩ := h; let ⟨_, t⟩ := t; ⟨_, .cons n h t⟩
theorem Dts.uncons {K : PySem.W.Frag} {G B H : Hp} {v : V} {d : D} {vs : List V} {ds : List D} (h : Dts K G B H (v :: vs) (d :: ds)) : d.old ∧ Dt K G B H v d ∧ Dts K G B H vs ds := by
  obtain ⟨S, h⟩ := h
  cases h with
  | cons n h t => exact ⟨n, ⟨_, h⟩, _, t⟩
theorem Dtm.nil {K : PySem.W.Frag} {G B H : Hp} : Dtm K G B H [] [] := ⟨_, .nil⟩
theorem Dtm.cons {K : PySem.W.Frag} {G B H : Hp} {k : Kd} {v : V} {d : D} {vs : List (Kd × V)} {ds : List (Kd × D)} (n : d.old) (h : Dt K G B H v d) (t : Dtm K G B H vs ds) : Dtm K G B H ((k, v) :: vs) ((k, d) :: ds) := let ⟨_, h⟩ := h; let ⟨_, t⟩ := t; ⟨_, .cons n h t⟩
theorem Dtm.uncons {K : PySem.W.Frag} {G B H : Hp} {k k' : Kd} {v : V} {d : D} {vs : List (Kd × V)} {ds : List (Kd × D)} (h : Dtm K G B H ((k, v) :: vs) ((k', d) :: ds)) : k = k' ∧ d.old ∧ Dt K G B H v d ∧ Dtm K G B H vs ds := by
  obtain ⟨S, h⟩ := h
  cases h with
  | cons n h t => exact ⟨rfl, n, ⟨_, h⟩, _, t⟩
theorem Dts.length {K : PySem.W.Frag} {G B H : Hp} {vs : List V} {ds : List D} (h : Dts K G B H vs ds) : vs.length = ds.length := let ⟨_, h⟩ := h; h.length
theorem Dtm.length {K : PySem.W.Frag} {G B H : Hp} {vs : List (Kd × V)} {ds : List (Kd × D)} (h : Dtm K G B H vs ds) : vs.length = ds.length := let ⟨_, h⟩ := h; h.length
/-- a list of trees, by places -/
theorem dts_iff {K : PySem.W.Frag} {G B H : Hp} : ∀ {vs : List V} {ds : List D}, Dts K G B H vs ds ↔ vs.length = ds.length ∧ (∀ d ∈ ds, d.old) ∧ ∀ (i : Nat) (v : V) (d : D), vs[i]? = some v → ds[i]? = some d → Dt K G B H v d
  | [], [] => ⟨fun _ => ⟨rfl, fun d m => by simp at m, fun i v d e => by simp at e⟩, fun _ => Dts.nil⟩
  | [], d :: ds => ⟨fun h => by simpa using h.length, fun h => by simpa using h.1⟩
  | v :: vs, [] => ⟨fun h => by simpa using h.length, fun h => by simpa using h.1⟩
  | v :: vs, d :: ds => by
    refine ⟨fun h => ⟨h.length, ?_⟩, fun ⟨hl, hn, h⟩ => ?_⟩
    · obtain ⟨h0, h1, h2⟩ := h.uncons
      refine ⟨fun x m => ?_, fun i x e e1 e2 => ?_⟩
      · rcases List.mem_cons.mp m with rfl | m
        · exact h0
        · exact (dts_iff.mp h2).2.1 x m
      · cases i with
        | zero => simp at e1 e2; subst e1 e2; exact h1
        | succ i => exact (dts_iff.mp h2).2.2 i x e (by simpa using e1) (by simpa using e2)
    · exact Dts.cons (hn d (by simp)) (h 0 v d rfl rfl) (dts_iff.mpr ⟨by simpa using hl, fun x m => hn x (by simp [m]), fun i x e e1 e2 => h (i + 1) x e (by simpa using e1) (by simpa using e2)⟩)
theorem Dts.get {K : PySem.W.Frag} {G B H : Hp} {vs : List V} {ds : List D} {i : Nat} {d : D} (h : Dts K G B H vs ds) (e : ds[i]? = some d) : ∃ v, vs[i]? = some v ∧ d.old ∧ Dt K G B H v d := by
  have hl : i < vs.length := by rw [h.length]; exact (List.getElem?_eq_some_iff.mp e).1
  exact ⟨vs[i], by simp [hl], (dts_iff.mp h).2.1 d (List.mem_of_getElem? e), (dts_iff.mp h).2.2 i _ d (by simp [hl]) e⟩
theorem Dts.nth {K : PySem.W.Frag} {G B H : Hp} {vs : List V} {ds : List D} {i : Nat} {v : V} (h : Dts K G B H vs ds) (e : vs[i]? = some v) : ∃ d, ds[i]? = some d ∧ d.old ∧ Dt K G B H v d := by
  have hl : i < ds.length := by rw [← h.length]; exact (List.getElem?_eq_some_iff.mp e).1
  have q : ds[i]? = some ds[i] := by simp [hl]
  exact ⟨ds[i], q, (dts_iff.mp h).2.1 _ (List.mem_of_getElem? q), (dts_iff.mp h).2.2 i v _ e q⟩
theorem Dts.append {K : PySem.W.Frag} {G B H : Hp} : ∀ {vs : List V} {ds : List D} {ws : List V} {es : List D}, Dts K G B H vs ds → Dts K G B H ws es → Dts K G B H (vs ++ ws) (ds ++ es)
  | [], [], _, _, _, h => h
  | [], d :: ds, _, _, h, _ => by have := h.length; simp at this
  | v :: vs, [], _, _, h, _ => by have := h.length; simp at this
  | v :: vs, d :: ds, _, _, h, h' => Dts.cons h.uncons.1 h.uncons.2.1 (Dts.append h.uncons.2.2 h')
theorem Dts.take {K : PySem.W.Frag} {G B H : Hp} : ∀ {vs : List V} {ds : List D} (n : Nat), Dts K G B H vs ds → Dts K G B H (vs.take n) (ds.take n)
  | _, _, 0, _ => by simpa using Dts.nil
  | [], [], _, _ => by simpa using Dts.nil
  | [], d :: ds, _, h => by have := h.length; simp at this
  | v :: vs, [], _, h => by have := h.length; simp at this
  | v :: vs, d :: ds, n + 1, h => Dts.cons h.uncons.1 h.uncons.2.1 (Dts.take n h.uncons.2.2)
theorem Dts.drop {K : PySem.W.Frag} {G B H : Hp} : ∀ {vs : List V} {ds : List D} (n : Nat), Dts K G B H vs ds → Dts K G B H (vs.drop n) (ds.drop n)
  | _, _, 0, h => h
  | [], [], _, _ => by simpa using Dts.nil
  | [], d :: ds, _, h => by have := h.length; simp at this
  | v :: vs, [], _, h => by have := h.length; simp at this
  | v :: vs, d :: ds, n + 1, h => Dts.drop n h.uncons.2.2
theorem Dts.reverse {K : PySem.W.Frag} {G B H : Hp} {vs : List V} {ds : List D} (h : Dts K G B H vs ds) : Dts K G B H vs.reverse ds.reverse := by
  rw [dts_iff]
  refine ⟨by simp [h.length], fun d m => (dts_iff.mp h).2.1 d (by simpa using m), fun i v d e1 e2 => ?_⟩
  rw [List.getElem?_reverse (by simpa using (List.getElem?_eq_some_iff.mp e1).1)] at e1
  rw [List.getElem?_reverse (by simpa using (List.getElem?_eq_some_iff.mp e2).1)] at e2
  exact (dts_iff.mp h).2.2 _ v d e1 (by rw [h.length]; exact e2)
theorem Dts.set {K : PySem.W.Frag} {G B H : Hp} {v : V} {d : D} (n : d.old) (hd : Dt K G B H v d) : ∀ {vs : List V} {ds : List D} (n : Nat), Dts K G B H vs ds → Dts K G B H (vs.set n v) (ds.set n d)
  | [], [], _, h => h
  | [], d :: ds, _, h => by have := h.length; simp at this
  | v :: vs, [], _, h => by have := h.length; simp at this
  | v :: vs, d :: ds, 0, h => Dts.cons n hd h.uncons.2.2
  | v :: vs, d :: ds, k + 1, h => Dts.cons h.uncons.1 h.uncons.2.1 (Dts.set n hd k h.uncons.2.2)
theorem dts_map {K : PySem.W.Frag} {G B H : Hp} {α : Type} {f : α → V} {g : α → D} (h : ∀ a, (g a).old ∧ Dt K G B H (f a) (g a)) : ∀ xs : List α, Dts K G B H (xs.map f) (xs.map g)
  | [] => Dts.nil
  | x :: xs => Dts.cons (h x).1 (h x).2 (dts_map h xs)
/-- arguments: new ones too -/
inductive Dta (K : PySem.W.Frag) (G B H : Hp) : List V → List D → Prop
  | nil : Dta K G B H [] []
  | cons {v : V} {d : D} {vs : List V} {ds : List D} (h : Dt K G B H v d) (t : Dta K G B H vs ds) : Dta K G B H (v :: vs) (d :: ds)
theorem Dta.length {K : PySem.W.Frag} {G B H : Hp} : ∀ {vs : List V} {ds : List D}, Dta K G B H vs ds → vs.length = ds.length
  | _, _, .nil => rfl
  | _, _, .cons _ t => congrArg (· + 1) (Dta.length t)
theorem Dta.ext {K : PySem.W.Frag} {G B H G' H' : Hp} (e : Ext G H G' H') : ∀ {vs : List V} {ds : List D}, Dta K G B H vs ds → Dta K G' B H' vs ds
  | _, _, .nil => .nil
  | _, _, .cons h t => .cons (Dt.ext e h) (Dta.ext e t)
theorem dts1 {K : PySem.W.Frag} {G B H : Hp} {xs : List V} {d : D} (h : Dta K G B H xs [d]) : ∃ v, xs = [v] ∧ Dt K G B H v d := by
  cases h with
  | cons h t => cases t; exact ⟨_, rfl, h⟩
theorem dts2 {K : PySem.W.Frag} {G B H : Hp} {xs : List V} {d e : D} (h : Dta K G B H xs [d, e]) : ∃ v w, xs = [v, w] ∧ Dt K G B H v d ∧ Dt K G B H w e := by
  cases h with
  | cons h t => cases t with
    | cons h' t => cases t; exact ⟨_, _, rfl, h, h'⟩
theorem dt_bl {K : PySem.W.Frag} {G B H : Hp} {v : V} {c : Bool} (h : Dt K G B H v (.bl c)) : v = .bl c := by obtain ⟨_, h⟩ := h; cases h; rfl
theorem dt_int {K : PySem.W.Frag} {G B H : Hp} {v : V} {c : Int} (h : Dt K G B H v (.int c)) : v = .int c := by obtain ⟨_, h⟩ := h; cases h; rfl
theorem dt_str {K : PySem.W.Frag} {G B H : Hp} {v : V} {c : Str} (h : Dt K G B H v (.str c)) : v = .str c := by obtain ⟨_, h⟩ := h; cases h; rfl
theorem dt_non {K : PySem.W.Frag} {G B H : Hp} {v : V} (h : Dt K G B H v .non) : v = .non := by obtain ⟨_, h⟩ := h; cases h; rfl
theorem dt_ty {K : PySem.W.Frag} {G B H : Hp} {v : V} {n : String} (h : Dt K G B H v (.ty n)) : v = .ty n := by obtain ⟨_, h⟩ := h; cases h; rfl
theorem dt_ref {K : PySem.W.Frag} {G B H : Hp} {v : V} {n : Addr} (h : Dt K G B H v (.ref n)) : v = .ref n := by obtain ⟨_, h⟩ := h; cases h; rfl
theorem dt_tup {K : PySem.W.Frag} {G B H : Hp} {v : V} {ds : List D} (gh : Same G H) (h : Dt K G B H v (.tup ds)) : ∃ p vs, v = .ref p ∧ SqT K H p vs ∧ TupO K G p vs ∧ Dts K G B H vs ds := by
  obtain ⟨_, h⟩ := h
  cases h with
  | tup h hs => exact ⟨_, _, rfl, Same.sqT gh h.sq, h, _, hs⟩
theorem dt_tuk {K : PySem.W.Frag} {G B H : Hp} {v : V} {ds : List D} (gh : Same G H) (h : Dt K G B H v (.tuk ds)) : ∃ p vs, v = .ref p ∧ SqT K H p vs ∧ Dts K G B H vs ds := by
  obtain ⟨_, h⟩ := h
  cases h with
  | tuk h hs => exact ⟨_, _, rfl, Same.sqT gh h, _, hs⟩
/-- a list, locked or not -/
theorem dt_lst {K : PySem.W.Frag} {G B H : Hp} {v : V} {f : Fl} {ds : List D} (gh : Same G H) (bh : Same B H) (h : Dt K G B H v (.lst f ds)) : ∃ p vs, v = .ref p ∧ SqL K H p vs ∧ Dts K G B H vs ds := by
  obtain ⟨_, h⟩ := h
  cases h with
  | lst h hs => exact ⟨_, _, rfl, SqL.of (Nd.here gh bh h), _, hs⟩
  | lok h hs => exact ⟨_, _, rfl, h.elim bh.seq gh.seq, _, hs⟩
theorem dt_lstX {K : PySem.W.Frag} {G B H : Hp} {v : V} {f : Fl} {ds : List D} (gh : Same G H) (bh : Same B H) (hf : f ≠ .loc) (h : Dt K G B H v (.lst f ds)) : ∃ p vs, v = .ref p ∧ H p = some (.lst vs) ∧ Dts K G B H vs ds := by
  obtain ⟨_, h⟩ := h
  cases h with
  | lst h hs => exact ⟨_, _, rfl, Nd.here gh bh h, _, hs⟩
  | lok h hs => exact absurd rfl hf
theorem dt_dic {K : PySem.W.Frag} {G B H : Hp} {v : V} {f : Fl} {ds : List (Kd × D)} (gh : Same G H) (bh : Same B H) (h : Dt K G B H v (.dic f ds)) : ∃ p vs, v = .ref p ∧ Rd H p (.dK vs) ∧ Dtm K G B H (vs.map kK) ds := by
  obtain ⟨_, h⟩ := h
  cases h with
  | dic h hs => exact ⟨_, _, rfl, NdR.here gh bh h, _, hs⟩
theorem dt_dit {K : PySem.W.Frag} {G B H : Hp} {v : V} {f : Fl} {ds : List (Kd × D)} (gh : Same G H) (bh : Same B H) (h : Dt K G B H v (.dit f ds)) : ∃ p vs, v = .ref p ∧ Rd H p (.dT vs) ∧ Dtm K G B H (vs.map kT) ds := by
  obtain ⟨_, h⟩ := h
  cases h with
  | dit h hs => exact ⟨_, _, rfl, NdR.here gh bh h, _, hs⟩
theorem dt_obj {K : PySem.W.Frag} {G B H : Hp} {v : V} {f : Fl} {C : Addr} {ds : List (Kd × D)} (gh : Same G H) (bh : Same B H) (h : Dt K G B H v (.obj f C ds)) : ∃ p dx vs, v = .ref p ∧ H p = some (.ins C dx vs) ∧ Dtm K G B H (vs.map kF) ds := by
  obtain ⟨_, h⟩ := h
  cases h with
  | obj h hs => exact ⟨_, _, _, rfl, Nd.here gh bh h, _, hs⟩

/-! ### the reading -/
structure Plc where
  s : List Sl
  a : List (Option D)
/-- a name's tree -/
def look (ρ : Plc) (i : Nat) : Option D := match ρ.s[i]? with
  | some (.val d) => some d
  | some (.arg j) => (ρ.a[j]?).bind id
  | _ => none
/-- the places may be read -/
structure SOk (K : PySem.W.Frag) (G B H : Hp) (As : List V) (σ : L2.St) (ρ : Plc) : Prop where
  gh : Same G H
  bh : Same B H
  len : ρ.s.length = σ.length
  at' : ∀ (i : Nat) (d : D), ρ.s[i]? = some (Sl.val d) → d.old ∧ ∃ v, σ[i]? = some (some v) ∧ Dt K G B H v d
  arg : ∀ (i j : Nat), ρ.s[i]? = some (Sl.arg j) → ∃ v, σ[i]? = some (some v) ∧ As[j]? = some v
  ar : ∀ (j : Nat) (d : D), ρ.a[j]? = some (some d) → d.old ∧ ∃ v, As[j]? = some v ∧ Dt K G B H v d
theorem SOk.ext {K : PySem.W.Frag} {G B H G' H' : Hp} {As : List V} {σ : L2.St} {ρ : Plc} (s : SOk K G B H As σ ρ) (e : Ext G H G' H') : SOk K G' B H' As σ ρ :=
  ⟨e.gh, fun a o q => e.h a o (s.bh a o q), s.len, fun i d q => let ⟨n, v, h1, h2⟩ := s.at' i d q; ⟨n, v, h1, Dt.ext e h2⟩, s.arg, fun j d q => let ⟨n, v, h1, h2⟩ := s.ar j d q; ⟨n, v, h1, Dt.ext e h2⟩⟩
theorem SOk.look {K : PySem.W.Frag} {G B H : Hp} {As : List V} {σ : L2.St} {ρ : Plc} (s : SOk K G B H As σ ρ) {i : Nat} {d : D} (h : look ρ i = some d) : d.old ∧ ∃ v, σ[i]? = some (some v) ∧ Dt K G B H v d := by
  unfold VL.look at h
  cases e : ρ.s[i]? with
  | none => rw [e] at h; cases h
  | some x =>
    rw [e] at h
    cases x with
    | no => cases h
    | val d' => cases h; exact s.at' i d e
    | arg j =>
      obtain ⟨v, h1, h2⟩ := s.arg i j e
      change (ρ.a[j]?).bind id = some d at h
      obtain ⟨n, v', h3, h4⟩ := s.ar j d (by
        cases e2 : ρ.a[j]? with
        | none => rw [e2] at h; cases h
        | some y => rw [e2] at h; cases y with
          | none => cases h
          | some z => cases h; rfl)
      rw [h2] at h3
      cases h3
      exact ⟨n, v, h1, h4⟩
/-- a new root is new -/
def Fresh (H G : Hp) (v : V) (d : D) : Prop := d.root = some .new → ∃ p, v = .ref p ∧ H p = none ∧ G p = none
theorem Fresh.of {H G : Hp} {v : V} {d : D} (h : d.root ≠ some .new) : Fresh H G v d := fun e => absurd e h
theorem Fresh.back {G H G1 H1 G2 : Hp} {v : V} {d : D} (e : Ext G H G1 H1) (h : Fresh H1 G2 v d) : Fresh H G2 v d := fun r => let ⟨p, a, b, c⟩ := h r; ⟨p, a, Same.free e.h b, c⟩
/-- a new root stays new while more is laid -/
theorem Fresh.on {K : PySem.W.Frag} {B H G1 H1 G2 H2 : Hp} {v : V} {d : D} (h : Fresh H G1 v d) (hd : Dt K G1 B H1 v d) (e : Ext G1 H1 G2 H2) : Fresh H G2 v d := fun r => by
  obtain ⟨p, rfl, h1, h2⟩ := h r
  refine ⟨p, rfl, h1, ?_⟩
  cases q : G2 p with
  | none => rfl
  | some o =>
    rcases e.new p o q with z | z
    · rw [h2] at z; cases z
    · obtain ⟨_, hd⟩ := hd
      cases hd with
      | lst n _ => cases r; rw [show H1 p = _ from n] at z; cases z
      | dic n _ =>
        cases r
        rcases n with n | ⟨nn, ob, n⟩
        · rw [show H1 p = _ from n] at z; cases z
        · exact absurd rfl nn
      | dit n _ =>
        cases r
        rcases n with n | ⟨nn, ob, n⟩
        · rw [show H1 p = _ from n] at z; cases z
        · exact absurd rfl nn
      | obj n _ => cases r; rw [show H1 p = _ from n] at z; cases z
      | _ => cases r
def ExnR (K : PySem.W.Frag) (G B H : Hp) (x : Exn) (cls : Value) (dx : Option Addr) : Prop :=
  cls = x.cls ∧ match x.flds with
    | none => dx = none
    | some fs => ∃ d vs, dx = some d ∧ H d = some (.xd vs) ∧ Dtm K G B H (vs.map kF) fs
abbrev FQ := Plc → Out Exn D
abbrev FT := Plc → Out Exn Bool
abbrev FA := Plc → Out Exn (List D)
def EX (K : PySem.W.Frag) (W : WX) (G B H : Hp) (σ : L2.St) (x : Exn) : Prop := ∀ G' H' cls dx, Ext G H G' H' → ExnR K G' B H' x cls dx → W cls dx σ H'
theorem EX.ext {K : PySem.W.Frag} {W : WX} {G B H G' H' : Hp} {σ : L2.St} {x : Exn} (e : Ext G H G' H') (h : EX K W G B H σ x) : EX K W G' B H' σ x := fun G2 H2 cls dx e2 r => h G2 H2 cls dx (e.trans e2) r
def KQ (K : PySem.W.Frag) (G B H : Hp) (R : VK) (d : D) : Prop := ∀ G' H' v, Ext G H G' H' → Dt K G' B H' v d → Fresh H G' v d → R v H'
theorem KQ.ext {K : PySem.W.Frag} {G B H G' H' : Hp} {R : VK} {d : D} (e : Ext G H G' H') (h : KQ K G B H R d) : KQ K G' B H' R d := fun G2 H2 v e2 r f => h G2 H2 v (e.trans e2) r (f.back e)
def KT (G H : Hp) (R : Bool → Hp → Prop) (b : Bool) : Prop := ∀ G' H', Ext G H G' H' → R b H'
def KA (K : PySem.W.Frag) (G B H : Hp) (R : List V → Hp → Prop) (ds : List D) : Prop := ∀ G' H' vs, Ext G H G' H' → Dta K G' B H' vs ds → (∀ v d, (v, d) ∈ vs.zip ds → Fresh H G' v d) → R vs H'
def upQ (K : PySem.W.Frag) (W : WX) (f : FQ) : TE := fun σ H R => ∃ (G B : Hp) (As : List V) (ρ : Plc), SOk K G B H As σ ρ ∧ (f ρ).P (KQ K G B H R) (EX K W G B H σ)
def upQT (K : PySem.W.Frag) (W : WX) (f : FT) : TT := fun σ H R => ∃ (G B : Hp) (As : List V) (ρ : Plc), SOk K G B H As σ ρ ∧ (f ρ).P (KT G H R) (EX K W G B H σ)
def upQA (K : PySem.W.Frag) (W : WX) (f : FA) : TA := fun σ H R => ∃ (G B : Hp) (As : List V) (ρ : Plc), SOk K G B H As σ ρ ∧ (f ρ).P (KA K G B H R) (EX K W G B H σ)
abbrev QE (X : Cx) (W : WX) (e : Expr) (f : FQ) : Prop := PE X e (upQ X.K W f)
abbrev QT (X : Cx) (W : WX) (e : Expr) (f : FT) : Prop := PT X e (upQT X.K W f)
abbrev QW (X : Cx) (W : WX) (e : Expr) (f : FT) : Prop := PW X e (upQT X.K W f)
abbrev QA (X : Cx) (W : WX) (es : List Expr) (f : FA) : Prop := PA X es (upQA X.K W f)
theorem peI {X : Cx} {e : Expr} {t t' : TE} (h : PE X e t) (i : ∀ σ H R, t' σ H R → t σ H R) : PE X e t' := ⟨fun pins s σ H Q I q => h.run pins s σ H Q I (i σ H Q q)⟩
theorem ptI {X : Cx} {e : Expr} {t t' : TT} (h : PT X e t) (i : ∀ σ H R, t' σ H R → t σ H R) : PT X e t' := ⟨fun pins s σ H Q I q => h.run pins s σ H Q I (i σ H Q q)⟩
theorem pwI {X : Cx} {e : Expr} {t t' : TT} (h : PW X e t) (i : ∀ σ H R, t' σ H R → t σ H R) : PW X e t' := ⟨fun w pins s σ H Q I q => h.run w pins s σ H Q I (i σ H Q q)⟩
theorem paI {X : Cx} {e : List Expr} {t t' : TA} (h : PA X e t) (i : ∀ σ H R, t' σ H R → t σ H R) : PA X e t' := ⟨fun pos pins s σ H Q I q => h.run pos pins s σ H Q I (i σ H Q q)⟩
/-- an expression, then what is made of it -/
theorem upQ_bind {K : PySem.W.Frag} {W : WX} {fa : FQ} {α : Type} {k : D → Out Exn α} {σ : L2.St} {H : Hp} {R : VK} {G B : Hp} {As : List V} {ρ : Plc} {P : α → Prop} (so : SOk K G B H As σ ρ) (h : ((fa ρ).bind k).P P (EX K W G B H σ))
    (go : ∀ d G1 H1 v, Ext G H G1 H1 → Dt K G1 B H1 v d → Fresh H G1 v d → (k d).P P (EX K W G B H σ) → R v H1) : upQ K W fa σ H R :=
  ⟨G, B, As, ρ, so, Out.P_mono (Out.P_bind.mp h) (fun d q G1 H1 v e hd f => go d G1 H1 v e hd f q) fun _ q => q⟩

/-! ### names, constants -/
def qV (i : Nat) : FQ := fun ρ => match look ρ i with
  | some d => .ok d
  | none => .no
def qC (d : D) : FQ := fun _ => .ok d
section
variable {X : Cx} {W : WX}
theorem KQ.given {K : PySem.W.Frag} {G B H : Hp} {R : VK} {v : V} {d : D} (gh : Same G H) (k : KQ K G B H R d) (h : Dt K G B H v d) (f : Fresh H G v d) : R v H := k G H v (Ext.refl gh) h f
theorem KQ.atom {K : PySem.W.Frag} {G B H : Hp} {R : VK} {v : V} {d : D} (gh : Same G H) (k : KQ K G B H R d) (h : Dat K G B H [] v d) (f : d.root = none := by rfl) : R v H := k.given gh ⟨_, h⟩ (Fresh.of (by rw [f]; simp))
/-- something new is laid -/
theorem KQ.floorL {K : PySem.W.Frag} {G B H : Hp} {R : VK} {p : Addr} {vs : List V} {ds : List D} (gh : Same G H) (hp : H p = none) (hd : Dts K G B H vs ds) (k : KQ K G B H R (.lst .new ds)) : R (.ref p) (upd H p (.lst vs)) := by
  have e := Ext.lay (o := .lst vs) gh hp
  obtain ⟨S, h⟩ := Dts.ext e hd
  exact k G _ _ e ⟨_, .lst (f := .new) upd_same h⟩ fun _ => ⟨p, rfl, hp, Same.free gh hp⟩
theorem KQ.floorT {K : PySem.W.Frag} {G B H : Hp} {R : VK} {p : Addr} {vs : List V} {ds : List D} (gh : Same G H) (hp : H p = none) (hd : Dts K G B H vs ds) (k : KQ K G B H R (.tup ds)) : R (.ref p) (upd H p (.tup vs)) := by
  have e := Ext.layG (o := .tup vs) gh hp
  obtain ⟨S, h⟩ := Dts.ext e hd
  exact k _ _ _ e ⟨_, .tup (.inl upd_same) h⟩ (Fresh.of (by simp [D.root]))
theorem qe_var {i : Nat} {x : Str} {pos : Pos} (hN : X.N[i]? = some x) (hv : Vis X.env.scope x) (hd : (x == ("__debug__" : Str)) = false := by decide) (hcd : (x == ("__classdict__" : Str)) = false := by decide) : QE X W (.Name x pos) (qV i) :=
  peI (pe_var hN hv hd hcd) fun σ H R ⟨G, B, As, ρ, so, q⟩ => by
    unfold qV at q
    cases e : look ρ i with
    | none => rw [e] at q; exact q.elim
    | some d =>
      rw [e] at q
      obtain ⟨n, v, h1, h2⟩ := so.look e
      exact ⟨v, h1, KQ.given so.gh q h2 (Fresh.of n)⟩
theorem qv (i : Nat) {x : Str} {pos : Pos} (hN : X.N[i]? = some x := by rfl) (hv : Vis X.env.scope x := by first | exact Or.inl rfl | exact Or.inr (Or.inl rfl) | exact Or.inr (Or.inr rfl)) (hd : (x == ("__debug__" : Str)) = false := by decide)
    (hcd : (x == ("__classdict__" : Str)) = false := by decide) : QE X W (.Name x pos) (qV i) := qe_var hN hv hd hcd
theorem qe_c {e : Expr} {v : V} {d : D} (h : PE X e (tC v)) (hd : ∀ G B H, Dat X.K G B H [] v d) (hr : d.root ≠ some .new := by simp [D.root]) : QE X W e (qC d) :=
  peI h fun σ H R ⟨G, B, As, ρ, so, q⟩ => KQ.given so.gh q ⟨_, hd G B H⟩ (Fresh.of hr)
theorem qe_int {i j pos} : QE X W (.Constant (.int i) j pos) (qC (.int i)) := qe_c pe_int fun _ _ _ => .int i
theorem qe_bl {b j pos} : QE X W (.Constant (.bool b) j pos) (qC (.bl b)) := qe_c pe_bl fun _ _ _ => .bl b
theorem qe_non {j pos} : QE X W (.Constant .none j pos) (qC .non) := qe_c pe_non fun _ _ _ => .non
theorem qe_str {x j pos} : QE X W (.Constant (.str x) j pos) (qC (.str x)) := qe_c pe_str fun _ _ _ => .str x
/-- a module's constant, class, function by its tree -/
theorem qe_glob {x : Str} {v : V} {u : Value} {d : D} {pos : Pos} (hm : X.mg x = some u) (r : RelV v u) (hd : ∀ G B H, Dat X.K G B H [] v d) (hr : d.root ≠ some .new := by simp [D.root]) (hg : Gl X x := by rfl) (hdb : (x == ("__debug__" : Str)) = false := by decide) : QE X W (.Name x pos) (qC d) :=
  qe_c (pe_glob hg hm r hdb) hd hr
theorem qe_bltn {x : Str} {v : V} {u : Value} {d : D} {pos : Pos} (hm : X.mg x = none) (hv : bootBuiltins x = some u) (r : RelV v u) (hd : ∀ G B H, Dat X.K G B H [] v d) (hr : d.root ≠ some .new := by simp [D.root]) (hg : Gl X x := by rfl) (hn : x ≠ "__name__" := by decide) (hdb : (x == ("__debug__" : Str)) = false := by decide) : QE X W (.Name x pos) (qC d) :=
  qe_c (pe_bltn hg hm hv r hn hdb) hd hr

/-! ### lists of expressions -/
def aNil : FA := fun _ => .ok []
def aCons (f : FQ) (g : FA) : FA := fun ρ => (f ρ).bind fun d => (g ρ).bind fun ds => .ok (d :: ds)
theorem qa_nil : QA X W [] aNil := paI pa_nil fun σ H R ⟨G, B, As, ρ, so, q⟩ => q G H [] (Ext.refl so.gh) .nil fun v d h => by simp at h
theorem qa_cons {e : Expr} {es : List Expr} {f : FQ} {g : FA} (ha : QE X W e f) (hr : QA X W es g) (hs : starEach (e :: es) X.env = (false, eval e X.env) :: starEach es X.env := by rfl) : QA X W (e :: es) (aCons f g) :=
  paI (pa_cons ha hr hs) fun σ H R ⟨G, B, As, ρ, so, q⟩ => upQ_bind so q fun d G1 H1 v e1 hd fr q1 =>
    ⟨G1, B, As, ρ, so.ext e1, Out.P_mono (Out.P_bind.mp q1) (fun ds q2 G2 H2 vs e2 hds frs => q2 G2 H2 (v :: vs) (e1.trans e2) (.cons (Dt.ext e2 hd) hds) fun w dw m => by
      rcases List.mem_cons.mp m with m | m
      · cases m
        exact Fresh.on fr hd e2
      · exact (frs w dw m).back e1) fun x h => EX.ext e1 h⟩

/-! ### operators by values -/
structure V1 (K : PySem.W.Frag) (r : V → Hp → VK → Prop) (f : D → Out Exn D) : Prop where
  go : ∀ (G B H : Hp) (x : V) (dx : D) (R : VK), Same G H → Same B H → Dt K G B H x dx → (f dx).P (KQ K G B H R) (fun _ => False) → r x H R
structure V2 (K : PySem.W.Frag) (r : R2) (f : D → D → Out Exn D) : Prop where
  go : ∀ (G B H : Hp) (x y : V) (dx dy : D) (R : VK), Same G H → Same B H → Dt K G B H x dx → Dt K G B H y dy → (f dx dy).P (KQ K G B H R) (fun _ => False) → r x y H R
structure Vs (K : PySem.W.Frag) (r : List V → Hp → VK → Prop) (f : List D → Out Exn D) : Prop where
  go : ∀ (G B H : Hp) (xs : List V) (ds : List D) (R : VK), Same G H → Same B H → Dta K G B H xs ds → (f ds).P (KQ K G B H R) (fun _ => False) → r xs H R
/-- what no operator raises -/
def Out.pure {α : Type} (o : Out Exn α) : Out Exn α := match o with
  | .ok a => .ok a
  | _ => .no
theorem pure_P {α : Type} {o : Out Exn α} {P : α → Prop} {E : Exn → Prop} (h : o.pure.P P E) : o.P P (fun _ => False) := by
  cases o with
  | ok a => exact h
  | ex e => exact h.elim
  | no => exact h.elim
def qUn (f : D → Out Exn D) (fa : FQ) : FQ := fun ρ => (fa ρ).bind fun x => (f x).pure
def qOp (f : D → D → Out Exn D) (fa fb : FQ) : FQ := fun ρ => (fa ρ).bind fun x => (fb ρ).bind fun y => (f x y).pure
def qCB (f : List D → Out Exn D) (fa : FA) : FQ := fun ρ => (fa ρ).bind fun xs => (f xs).pure
variable {a b c e o : Expr} {es : List Expr} {fa fb fc : FQ} {ga : FA} {pos p apos : Pos} {x : Str} {id T : String}
theorem KQ.later {K : PySem.W.Frag} {G B H G' H' : Hp} {R : VK} {d : D} (e : Ext G H G' H') (h : KQ K G B H R d) : KQ K G' B H' R d := h.ext e
theorem up_un {K : PySem.W.Frag} {r : V → Hp → VK → Prop} {f : D → Out Exn D} (hv : V1 K r f) {σ : L2.St} {H : Hp} {R : VK} (h : upQ K W (qUn f fa) σ H R) : tUn r (upQ K W fa) σ H R := by
  obtain ⟨G, B, As, ρ, so, q⟩ := h
  exact upQ_bind so q fun d G1 H1 v e1 hd fr q1 => hv.go G1 B H1 v d R e1.gh (so.ext e1).bh hd (Out.P_mono (pure_P q1) (fun _ k => k.ext e1) fun _ z => z)
theorem up_op {K : PySem.W.Frag} {r : R2} {f : D → D → Out Exn D} (hv : V2 K r f) {σ : L2.St} {H : Hp} {R : VK} (h : upQ K W (qOp f fa fb) σ H R) : tOp r (upQ K W fa) (upQ K W fb) σ H R := by
  obtain ⟨G, B, As, ρ, so, q⟩ := h
  exact upQ_bind so q fun d G1 H1 v e1 hd fr q1 => upQ_bind (so.ext e1) (Out.P_mono q1 (fun _ k => KQ.ext e1 k) fun _ z => EX.ext e1 z) fun d2 G2 H2 v2 e2 hd2 fr2 q2 =>
    hv.go G2 B H2 v v2 d d2 R e2.gh ((so.ext e1).ext e2).bh (Dt.ext e2 hd) hd2 (Out.P_mono (pure_P q2) (fun _ k => k.ext e2) fun _ z => z)
theorem up_cb {K : PySem.W.Frag} {r : List V → Hp → VK → Prop} {f : List D → Out Exn D} (hv : Vs K r f) {σ : L2.St} {H : Hp} {R : VK} (h : upQ K W (qCB f ga) σ H R) : tCB r (upQA K W ga) σ H R := by
  obtain ⟨G, B, As, ρ, so, q⟩ := h
  exact ⟨G, B, As, ρ, so, Out.P_mono (Out.P_bind.mp q) (fun ds q1 G1 H1 vs e1 hds _ => hv.go G1 B H1 vs ds R e1.gh (so.ext e1).bh hds (Out.P_mono (pure_P q1) (fun _ k => k.ext e1) fun _ z => z)) fun _ z => z⟩
theorem qe_op {op : Operator} {r : R2} {f : D → D → Out Exn D} (ho : OpR X (binaryOp op) r) (hv : V2 X.K r f) (ha : QE X W a fa) (hb : QE X W b fb) : QE X W (.BinOp a op b pos) (qOp f fa fb) := peI (pe_op ho ha hb) fun _ _ _ h => up_op hv h
theorem qe_cmp {op : CmpOp} {r : R2} {f : D → D → Out Exn D} (ho : OpR X (compareOp op) r) (hv : V2 X.K r f) (ha : QE X W a fa) (hb : QE X W b fb) (hm : behindInMarks op b = false := by first | exact nomark _ | rfl) : QE X W (.Compare a [op] [b] pos) (qOp f fa fb) := peI (pe_cmpR ho ha hb hm) fun _ _ _ h => up_op hv h
theorem qe_ix {r : R2} {f : D → D → Out Exn D} (hr : IxR X r) (hv : V2 X.K r f) (ha : QE X W a fa) (hb : QE X W b fb) (hs : PlainIx b := by intro _ _; rfl) : QE X W (.Subscript a b pos) (qOp f fa fb) := peI (pe_ix hr ha hb hs) fun _ _ _ h => up_op hv h
theorem qe_un {op : UnaryOp} {r : V → Hp → VK → Prop} {f : D → Out Exn D} (ho : UnR X (unaryOp op) r) (hv : V1 X.K r f) (ha : QE X W a fa) : QE X W (.UnaryOp op a pos) (qUn f fa) := peI (pe_un ho ha) fun _ _ _ h => up_un hv h
theorem qe_callB {r : List V → Hp → VK → Prop} {f : List D → Out Exn D} (hc : CallR X (.builtin id) r) (hv : Vs X.K r f) (hm : X.mg x = none) (hb : bootBuiltins x = some (.builtin id)) (ha : QA X W (e :: es) ga) (hg : Gl X x := by rfl) (hn : x ≠ "__name__" := by decide) (hdb : (x == ("__debug__" : Str)) = false := by decide)
    (he : starEach (e :: es) X.env = (false, eval e X.env) :: starEach es X.env := by rfl) (hpl : (backTo pos (starEach es X.env)).any (·.1) = false := by rfl) : QE X W (.Call (.Name x p) (e :: es) [] pos) (qCB f ga) := peI (pe_callB hc hg hm hb ha hn hdb he hpl) fun _ _ _ h => up_cb hv h
theorem qe_callTy {r : List V → Hp → VK → Prop} {f : List D → Out Exn D} (hc : CallR X (.type T) r) (hv : Vs X.K r f) (hm : X.mg x = none) (hb : bootBuiltins x = some (.type T)) (ha : QA X W (e :: es) ga) (hg : Gl X x := by rfl) (hn : x ≠ "__name__" := by decide) (hdb : (x == ("__debug__" : Str)) = false := by decide)
    (he : starEach (e :: es) X.env = (false, eval e X.env) :: starEach es X.env := by rfl) (hpl : (backTo pos (starEach es X.env)).any (·.1) = false := by rfl) : QE X W (.Call (.Name x p) (e :: es) [] pos) (qCB f ga) := peI (pe_callTy hc hg hm hb ha hn hdb he hpl) fun _ _ _ h => up_cb hv h
/-- a > b > c -/
def qChain (f g : D → D → Out Exn D) (fa fb fc : FQ) : FQ := fun ρ => (fa ρ).bind fun x => (fb ρ).bind fun y => (f x y).pure.bind fun z => match z with
  | .bl true => (fc ρ).bind fun w => (g y w).pure
  | .bl false => .ok (.bl false)
  | _ => .no
theorem qe_chain {op op' : CmpOp} {r r' : R2} {f g : D → D → Out Exn D} (ho : OpR X (compareOp op) r) (ho' : OpR X (compareOp op') r') (hv : V2 X.K r f) (hv' : V2 X.K r' g) (ha : QE X W a fa) (hb : QE X W b fb) (hc : QE X W c fc)
    (hm : lastMarks [op, op'] [b, c] = false := by with_unfolding_all rfl) : QE X W (.Compare a [op, op'] [b, c] pos) (qChain f g fa fb fc) :=
  peI (pe_chain ho ho' ha hb hc hm) fun σ H R ⟨G, B, As, ρ, so, q⟩ =>
  upQ_bind so q fun d G1 H1 v e1 hd fr q1 => upQ_bind (so.ext e1) (Out.P_mono q1 (fun _ k => KQ.ext e1 k) fun _ z => EX.ext e1 z) fun d2 G2 H2 v2 e2 hd2 fr2 q2 =>
    have so2 := (so.ext e1).ext e2
    hv.go G2 B H2 v v2 d d2 _ e2.gh so2.bh (Dt.ext e2 hd) hd2 (Out.P_mono (pure_P (Out.P_bind.mp q2)) (fun dz q3 G3 H3 z e3 hz _ => by
      cases dz with
      | bl k =>
        refine ⟨k, dt_bl hz, ?_⟩
        cases k with
        | false => exact iteF (q3 G3 H3 _ (e2.trans e3) ⟨_, .bl false⟩ (Fresh.of (by simp [D.root])))
        | true => exact iteT (upQ_bind (so2.ext e3) (Out.P_mono q3 (fun _ k => KQ.ext (e2.trans e3) k) fun _ z => EX.ext (e2.trans e3) z) fun d4 G4 H4 v4 e4 hd4 fr4 q4 =>
            hv'.go G4 B H4 v2 v4 d2 d4 R e4.gh ((so2.ext e3).ext e4).bh (Dt.ext (e3.trans e4) hd2) hd4 (Out.P_mono (pure_P q4) (fun _ k => k.ext e4) fun _ z => z))
      | _ => exact q3.elim) fun _ z => z)
end
end VL

/-! VLc: tests, displays, fields, slices, methods of texts. -/
namespace VL
open PySem PySem.Spec PyProof.Rows L2

def toB : D → Out Exn Bool
  | .bl b => .ok b
  | _ => .no
def toI : D → Out Exn Int
  | .int i => .ok i
  | _ => .no
def tV (fa : FQ) : FT := fun ρ => (fa ρ).bind toB
def tNot (t : FT) : FT := fun ρ => (t ρ).bind fun b => .ok (!b)
def tAnd (t u : FT) : FT := fun ρ => (t ρ).bind fun b => if b = true then u ρ else .ok false
def tOr (t u : FT) : FT := fun ρ => (t ρ).bind fun b => if b = true then .ok true else u ρ
def qNot (fa : FQ) : FQ := fun ρ => (fa ρ).bind fun d => (toB d).bind fun b => .ok (.bl (!b))
def qAnd (fa fb : FQ) : FQ := fun ρ => (fa ρ).bind fun d => (toB d).bind fun b => if b = true then fb ρ else .ok (.bl false)
def qOr (fa fb : FQ) : FQ := fun ρ => (fa ρ).bind fun d => (toB d).bind fun b => if b = true then .ok (.bl true) else fb ρ
def qIf (t : FT) (fa fb : FQ) : FQ := fun ρ => (t ρ).bind fun b => if b = true then fa ρ else fb ρ
theorem toB_P {d : D} {P : Bool → Prop} {E : Exn → Prop} (h : (toB d).P P E) : ∃ b, d = .bl b ∧ P b := by
  cases d with
  | bl b => exact ⟨b, rfl, h⟩
  | _ => exact h.elim
theorem toI_P {d : D} {P : Int → Prop} {E : Exn → Prop} (h : (toI d).P P E) : ∃ b, d = .int b ∧ P b := by
  cases d with
  | int b => exact ⟨b, rfl, h⟩
  | _ => exact h.elim
section
variable {X : Cx} {W : WX} {a b c e o : Expr} {es : List Expr} {fa fb fc : FQ} {ga : FA} {pos p apos : Pos} {x : Str} {id T : String} {t u : FT} {rest : List Expr}
theorem KT.ext {G H G' H' : Hp} {R : Bool → Hp → Prop} {d : Bool} (e : Ext G H G' H') (h : KT G H R d) : KT G' H' R d := fun G2 H2 e2 => h G2 H2 (e.trans e2)
theorem up_b {K : PySem.W.Frag} {σ : L2.St} {H : Hp} {R : Bool → Hp → Prop} (h : upQT K W (tV fa) σ H R) : tB (upQ K W fa) σ H R := by
  obtain ⟨G, B, As, ρ, so, q⟩ := h
  refine upQ_bind so q fun d G1 H1 v e1 hd fr q1 => ?_
  obtain ⟨b, rfl, q2⟩ := toB_P q1
  exact ⟨b, dt_bl hd, q2 G1 H1 e1⟩
theorem qt_val (h : QE X W a fa) (he : ∀ whole, isTrue a X.env whole = (do let v ← whole; standAt a.pos; holding [v] (truthy v)) := by intro _; rfl) : QT X W a (tV fa) := ptI (pt_val h he) fun _ _ _ h => up_b h
theorem qt_cmp {op : CmpOp} {r : R2} {f : D → D → Out Exn D} (ho : OpR X (compareOp op) r) (hv : V2 X.K r f) (ha : QE X W a fa) (hb : QE X W b fb) (hm : behindInMarks op b = false := by first | exact nomark _ | rfl) : QT X W (.Compare a [op] [b] pos) (tV (qOp f fa fb)) :=
  ptI (pt_cmpR ho ha hb hm) fun σ H R h => up_op hv (up_b h)
theorem upT_bind {K : PySem.W.Frag} {ft : FT} {α : Type} {k : Bool → Out Exn α} {σ : L2.St} {H : Hp} {R : Bool → Hp → Prop} {G B : Hp} {As : List V} {ρ : Plc} {P : α → Prop} (so : SOk K G B H As σ ρ) (h : ((ft ρ).bind k).P P (EX K W G B H σ))
    (go : ∀ d G1 H1, Ext G H G1 H1 → (k d).P P (EX K W G B H σ) → R d H1) : upQT K W ft σ H R :=
  ⟨G, B, As, ρ, so, Out.P_mono (Out.P_bind.mp h) (fun d q G1 H1 e => go d G1 H1 e q) fun _ q => q⟩
theorem qt_not (h : QT X W a t) : QT X W (.UnaryOp .Not a pos) (tNot t) := ptI (pt_not h) fun σ H R ⟨G, B, As, ρ, so, q⟩ => upT_bind so q fun d G1 H1 e1 q1 => q1 G1 H1 e1
theorem qw_and1 (h : QT X W a t) : QW X W (.BoolOp .And [a] pos) t := pw_and1 h
theorem qw_or1 (h : QT X W a t) : QW X W (.BoolOp .Or [a] pos) t := pw_or1 h
theorem again_t {K : PySem.W.Frag} {u : FT} {σ : L2.St} {H G1 H1 : Hp} {R : Bool → Hp → Prop} {G B : Hp} {As : List V} {ρ : Plc} (so : SOk K G B H As σ ρ) (e : Ext G H G1 H1) (q : (u ρ).P (KT G H R) (EX K W G B H σ)) : upQT K W u σ H1 R :=
  ⟨G1, B, As, ρ, so.ext e, Out.P_mono q (fun _ k => KT.ext e k) fun _ k => EX.ext e k⟩
theorem again {K : PySem.W.Frag} {u : FQ} {σ : L2.St} {H G1 H1 : Hp} {R : VK} {G B : Hp} {As : List V} {ρ : Plc} (so : SOk K G B H As σ ρ) (e : Ext G H G1 H1) (q : (u ρ).P (KQ K G B H R) (EX K W G B H σ)) : upQ K W u σ H1 R :=
  ⟨G1, B, As, ρ, so.ext e, Out.P_mono q (fun _ k => KQ.ext e k) fun _ k => EX.ext e k⟩
theorem qw_and (h : QT X W a t) (h2 : QW X W (.BoolOp .And (b :: rest) pos) u) : QW X W (.BoolOp .And (a :: b :: rest) pos) (tAnd t u) := pwI (pw_and h h2) fun σ H R ⟨G, B, As, ρ, so, q⟩ => upT_bind so q fun d G1 H1 e1 q1 => by
  cases d with
  | true => exact iteT (again_t so e1 (by simpa using q1))
  | false => exact iteF ((show KT G H R false by simpa [Out.P] using q1) G1 H1 e1)
theorem qw_or (h : QT X W a t) (h2 : QW X W (.BoolOp .Or (b :: rest) pos) u) : QW X W (.BoolOp .Or (a :: b :: rest) pos) (tOr t u) := pwI (pw_or h h2) fun σ H R ⟨G, B, As, ρ, so, q⟩ => upT_bind so q fun d G1 H1 e1 q1 => by
  cases d with
  | true => exact iteT ((show KT G H R true by simpa [Out.P] using q1) G1 H1 e1)
  | false => exact iteF (again_t so e1 (by simpa using q1))
theorem kq_bl {K : PySem.W.Frag} {G B H : Hp} {R : VK} {k : Bool} (q : KQ K G B H R (.bl k)) {G1 H1 : Hp} (e : Ext G H G1 H1) : R (.bl k) H1 := q G1 H1 _ e ⟨_, .bl k⟩ (Fresh.of (by simp [D.root]))
theorem qe_one {op} (h : QE X W a fa) : QE X W (.BoolOp op [a] pos) fa := pe_one h
theorem qe_and (h : QE X W a fa) (h2 : QE X W (.BoolOp .And (b :: rest) pos) fb) : QE X W (.BoolOp .And (a :: b :: rest) pos) (qAnd fa fb) := peI (pe_and h h2) fun σ H R ⟨G, B, As, ρ, so, q⟩ => upQ_bind so q fun d G1 H1 v e1 hd fr q1 => by
  obtain ⟨k, rfl, q2⟩ := toB_P (Out.P_bind.mp q1)
  refine ⟨k, dt_bl hd, ?_⟩
  cases k with
  | true => exact iteT (again so e1 (by simpa using q2))
  | false => exact iteF (kq_bl (by simpa [Out.P] using q2) e1)
theorem qe_or (h : QE X W a fa) (h2 : QE X W (.BoolOp .Or (b :: rest) pos) fb) : QE X W (.BoolOp .Or (a :: b :: rest) pos) (qOr fa fb) := peI (pe_or h h2) fun σ H R ⟨G, B, As, ρ, so, q⟩ => upQ_bind so q fun d G1 H1 v e1 hd fr q1 => by
  obtain ⟨k, rfl, q2⟩ := toB_P (Out.P_bind.mp q1)
  refine ⟨k, dt_bl hd, ?_⟩
  cases k with
  | true => exact iteT (kq_bl (by simpa [Out.P] using q2) e1)
  | false => exact iteF (again so e1 (by simpa using q2))
theorem qe_not (h : QE X W a fa) : QE X W (.UnaryOp .Not a pos) (qNot fa) := peI (pe_not h) fun σ H R ⟨G, B, As, ρ, so, q⟩ => upQ_bind so q fun d G1 H1 v e1 hd fr q1 => by
  obtain ⟨k, rfl, q2⟩ := toB_P (Out.P_bind.mp q1)
  exact ⟨k, dt_bl hd, kq_bl q2 e1⟩
theorem qe_ifExp (hc : QT X W c t) (h : QE X W a fa) (h2 : QE X W b fb) : QE X W (.IfExp c a b pos) (qIf t fa fb) := peI (pe_ifExp hc h h2) fun σ H R ⟨G, B, As, ρ, so, q⟩ => upT_bind so q fun d G1 H1 e1 q1 => by
  cases d with
  | true => exact iteT (again so e1 (by simpa using q1))
  | false => exact iteF (again so e1 (by simpa using q1))

/-! ### displays -/
/-- a new root is settled -/
def D.st : D → D
  | .lst .new xs => .lst .frz xs
  | .dic .new xs => .dic .frz xs
  | .dit .new xs => .dit .frz xs
  | .obj .new C xs => .obj .frz C xs
  | d => d
theorem st_old (d : D) : d.st.old := by
  cases d with
  | lst f _ => cases f <;> simp [D.st, D.root]
  | dic f _ => cases f <;> simp [D.st, D.root]
  | dit f _ => cases f <;> simp [D.st, D.root]
  | obj f _ _ => cases f <;> simp [D.st, D.root]
  | _ => simp [D.st, D.root]
theorem st_id {d : D} (h : d.old) : d.st = d := by
  cases d with
  | lst f _ => cases f <;> first | rfl | exact absurd rfl h
  | dic f _ => cases f <;> first | rfl | exact absurd rfl h
  | dit f _ => cases f <;> first | rfl | exact absurd rfl h
  | obj f _ _ => cases f <;> first | rfl | exact absurd rfl h
  | _ => rfl
/-- all that is new since H is settled -/
noncomputable def grab (H G1 H1 : Hp) : Hp := fun a => match G1 a with
  | some o => some o
  | none => match H a with
    | none => H1 a
    | some _ => none
theorem grab_ext {G H G1 H1 : Hp} (e : Ext G H G1 H1) : Ext G H (grab H G1 H1) H1 ∧ Same G1 (grab H G1 H1) := by
  have s : Same G1 (grab H G1 H1) := fun a o q => by simp [grab, q]
  refine ⟨⟨e.h, fun a o q => s a o (e.g a o q), fun a o q => ?_, fun a o q => ?_⟩, s⟩
  · unfold grab at q
    cases q1 : G1 a with
    | some u => rw [q1] at q; cases q; exact e.new a _ q1
    | none =>
      rw [q1] at q
      cases q2 : H a with
      | some u => rw [q2] at q; cases q
      | none => exact .inr rfl
  · unfold grab at q
    cases q1 : G1 a with
    | some u => rw [q1] at q; cases q; exact e.gh a _ q1
    | none =>
      rw [q1] at q
      cases q2 : H a with
      | some u => rw [q2] at q; cases q
      | none => rw [q2] at q; exact q
theorem st_dt {K : PySem.W.Frag} {G B H G1 H1 : Hp} {v : V} {d : D} (e : Ext G H G1 H1) (hd : Dt K G1 B H1 v d) (fr : Fresh H G1 v d) : Dt K (grab H G1 H1) B H1 v d.st := by
  obtain ⟨e2, s⟩ := grab_ext e
  have rd : ∀ p o, H p = none → H1 p = some o → grab H G1 H1 p = some o := fun p o a b => by
    unfold grab
    cases q1 : G1 p with
    | some u => have := e.gh p u q1; rw [b] at this; cases this; rfl
    | none => simp [a, b]
  have hm : ∀ {d : D}, Dt K G1 B H1 v d → Dt K (grab H G1 H1) B H1 v d := fun h => let ⟨S, h⟩ := h; ⟨S, h.mono s (fun _ _ q => q) (On.of fun _ _ q => q)⟩
  by_cases ho : d.old
  · rw [st_id ho]; exact hm hd
  · have hr : d.root = some .new := by simpa using ho
    obtain ⟨p, rfl, h1, h2⟩ := fr hr
    obtain ⟨S, hd'⟩ := hm hd
    cases hd' with
    | lst n hs => cases hr; exact ⟨_, .lst (f := .frz) (rd p _ h1 n) hs⟩
    | dic n hs =>
      cases hr
      rcases n with n | ⟨nn, ob, n⟩
      · exact ⟨_, .dic (f := .frz) (.inl (rd p _ h1 n)) hs⟩
      · exact absurd rfl nn
    | dit n hs =>
      cases hr
      rcases n with n | ⟨nn, ob, n⟩
      · exact ⟨_, .dit (f := .frz) (.inl (rd p _ h1 n)) hs⟩
      · exact absurd rfl nn
    | obj n hs => cases hr; exact ⟨_, .obj (f := .frz) (rd p _ h1 n) hs⟩
    | _ => cases hr
theorem st_dts {K : PySem.W.Frag} {G B H G1 H1 : Hp} (e : Ext G H G1 H1) : ∀ {vs : List V} {ds : List D}, Dta K G1 B H1 vs ds → (∀ v d, (v, d) ∈ vs.zip ds → Fresh H G1 v d) → Dts K (grab H G1 H1) B H1 vs (ds.map D.st)
  | _, _, .nil, _ => Dts.nil
  | _, _, .cons h t, f => Dts.cons (st_old _) (st_dt e h (f _ _ (by simp))) (st_dts e t fun v d m => f v d (by simp [m]))
def mkTup (ds : List D) : Out Exn D := if ds.length ≤ sizeLine then .ok (.tup (ds.map D.st)) else .no
def mkLst (ds : List D) : Out Exn D := if ds.length ≤ sizeLine then .ok (.lst .new (ds.map D.st)) else .no
def qTup (g : FA) : FQ := fun ρ => (g ρ).bind mkTup
def qLst (g : FA) : FQ := fun ρ => (g ρ).bind mkLst
theorem Out.P_if {ε α : Type} {c : Prop} [Decidable c] {a : α} {P : α → Prop} {E : ε → Prop} (h : (if c then Out.ok a else Out.no : Out ε α).P P E) : c ∧ P a := by
  by_cases hc : c
  · rw [if_pos hc] at h; exact ⟨hc, h⟩
  · rw [if_neg hc] at h; exact h.elim
theorem qe_tup {x1} (h : QA X W es ga) : QE X W (.Tuple es x1 pos) (qTup ga) := peI (pe_tup h) fun σ H R ⟨G, B, As, ρ, so, q⟩ =>
  ⟨G, B, As, ρ, so, Out.P_mono (Out.P_bind.mp q) (fun ds q1 G1 H1 vs e1 hds frs => by
    obtain ⟨hl, q2⟩ := Out.P_if q1
    refine ⟨by rw [hds.length]; exact hl, fun p hp => ?_⟩
    obtain ⟨e2, _⟩ := grab_ext e1
    exact KQ.floorT e2.gh hp (st_dts e1 hds frs) (q2.ext e2)) fun _ z => z⟩
theorem qe_lst (h : QA X W es ga) : QE X W (.List es pos) (qLst ga) := peI (pe_lst h) fun σ H R ⟨G, B, As, ρ, so, q⟩ =>
  ⟨G, B, As, ρ, so, Out.P_mono (Out.P_bind.mp q) (fun ds q1 G1 H1 vs e1 hds frs => by
    obtain ⟨hl, q2⟩ := Out.P_if q1
    refine ⟨by rw [hds.length]; exact hl, fun p hp => ?_⟩
    obtain ⟨e2, _⟩ := grab_ext e1
    exact KQ.floorL e2.gh hp (st_dts e1 hds frs) (q2.ext e2)) fun _ z => z⟩

/-! ### fields -/
def getK : List (Kd × D) → Kd → Option D
  | [], _ => none
  | (k', d) :: r, k => if k' = k then some d else getK r k
theorem Dtm.look {K : PySem.W.Frag} {G B H : Hp} {f : Str} : ∀ {vs : List (Str × V)} {ds : List (Kd × D)}, Dtm K G B H (vs.map kF) ds → (∀ d, getK ds (kS f) = some d → ∃ v, vs.lookup f = some v ∧ d.old ∧ Dt K G B H v d) ∧ (getK ds (kS f) = none → vs.lookup f = none)
  | [], [], _ => ⟨(fun d e => nomatch e), fun _ => rfl⟩
  | [], _ :: _, h => by have := h.length; simp at this
  | _ :: _, [], h => by have := h.length; simp at this
  | (k, v) :: vs, (k', d) :: ds, h => by
    obtain ⟨rfl, n, h1, h2⟩ := Dtm.uncons (k := kS k) (v := v) (vs := vs.map kF) h
    obtain ⟨i1, i2⟩ := Dtm.look (f := f) h2
    by_cases hk : k = f
    · subst hk
      refine ⟨fun d' e => ?_, fun e => ?_⟩
      · rw [getK, if_pos rfl] at e
        cases e
        exact ⟨v, by simp [List.lookup_cons], n, h1⟩
      · rw [getK, if_pos rfl] at e
        cases e
    · have hk' : (f == k) = false := beq_eq_false_iff_ne.mpr (Ne.symm hk)
      have ne : ¬ (kS k = kS f) := fun e => hk (by simpa using e)
      refine ⟨fun d' e => ?_, fun e => ?_⟩
      · rw [getK, if_neg ne] at e
        rw [List.lookup_cons, hk']
        exact i1 d' e
      · rw [getK, if_neg ne] at e
        rw [List.lookup_cons, hk']
        exact i2 e
def fldD (C : Addr) (f : Str) : D → Out Exn D
  | .obj _ C' fs => if C' = C then (match getK fs (kS f) with | some d => .ok d | none => .no) else .no
  | _ => .no
def qFld (C : Addr) (f : Str) (fa : FQ) : FQ := fun ρ => (fa ρ).bind (fldD C f)
theorem fldD_P {C : Addr} {f : Str} {d : D} {P : D → Prop} {E : Exn → Prop} (h : (fldD C f d).P P E) : ∃ fl fs d', d = .obj fl C fs ∧ getK fs (kS f) = some d' ∧ P d' := by
  cases d with
  | obj fl C' fs =>
    simp only [fldD] at h
    by_cases hc : C' = C
    · rw [if_pos hc] at h
      subst hc
      cases e : getK fs (kS f) with
      | none => rw [e] at h; exact h.elim
      | some d' => rw [e] at h; exact ⟨fl, fs, d', rfl, e, h⟩
    · rw [if_neg hc] at h; exact h.elim
  | _ => exact h.elim
theorem qe_fld {C : Addr} {f : Str} (c : Cls X.K C) (nf : NoAttr X.K C f) (he : QE X W e fa) (hb : attributeBase e f X.env (eval e X.env) = eval e X.env := by rfl) : QE X W (.Attribute e f pos) (qFld C f fa) := peI (pe_fld he hb) fun σ H R ⟨G, B, As, ρ, so, q⟩ =>
  upQ_bind so q fun d G1 H1 v e1 hd fr q1 => by
    obtain ⟨fl, fs, d', rfl, eg, q2⟩ := fldD_P q1
    obtain ⟨p, dx, vs, rfl, hp, hm⟩ := dt_obj e1.gh (so.ext e1).bh hd
    obtain ⟨v', hv', n, hd'⟩ := hm.look.1 d' eg
    exact ⟨p, C, dx, vs, v', rfl, hp, c, nf, hv', q2 G1 H1 v' e1 hd' (Fresh.of n)⟩

/-! ### slices -/
abbrev FO := Plc → Out Exn (Option Int)
def upQO (K : PySem.W.Frag) (W : WX) (f : FO) : TO := fun σ H R => ∃ (G B : Hp) (As : List V) (ρ : Plc), SOk K G B H As σ ρ ∧ (f ρ).P (fun i => ∀ G' H', Ext G H G' H' → R i H') (EX K W G B H σ)
abbrev QO (X : Cx) (W : WX) (e : Option Expr) (f : FO) : Prop := PO X e (upQO X.K W f)
theorem poI {e : Option Expr} {t t' : TO} (h : PO X e t) (i : ∀ σ H R, t' σ H R → t σ H R) : PO X e t' := ⟨fun pins s σ H Q I q => h.run pins s σ H Q I (i σ H Q q)⟩
def oNone : FO := fun _ => .ok none
def oSome (f : FQ) : FO := fun ρ => (f ρ).bind fun d => (toI d).bind fun i => .ok (some i)
theorem qo_none : QO X W none oNone := poI po_none fun σ H R ⟨G, B, As, ρ, so, q⟩ => q G H (Ext.refl so.gh)
theorem qo_some (h : QE X W e fa) : QO X W (some e) (oSome fa) := poI (po_some h) fun σ H R ⟨G, B, As, ρ, so, q⟩ => upQ_bind so q fun d G1 H1 v e1 hd fr q1 => by
  obtain ⟨i, rfl, q2⟩ := toI_P (Out.P_bind.mp q1)
  exact ⟨i, dt_int hd, q2 G1 H1 e1⟩
structure VSl (K : PySem.W.Frag) (r : V → Option Int → Option Int → Hp → VK → Prop) (f : D → Option Int → Option Int → Out Exn D) : Prop where
  go : ∀ (G B H : Hp) (x : V) (dx : D) (lo hi : Option Int) (R : VK), Same G H → Same B H → Dt K G B H x dx → (f dx lo hi).P (KQ K G B H R) (fun _ => False) → r x lo hi H R
def qSl (f : D → Option Int → Option Int → Out Exn D) (fa : FQ) (fl fh : FO) : FQ := fun ρ => (fa ρ).bind fun x => (fl ρ).bind fun l => (fh ρ).bind fun h => (f x l h).pure
theorem qe_slice {r : V → Option Int → Option Int → Hp → VK → Prop} {f : D → Option Int → Option Int → Out Exn D} {lo hi : Option Expr} {fl fh : FO} {p2 : Pos} (hr : SlR X r) (hv : VSl X.K r f) (he : QE X W e fa) (hl : QO X W lo fl) (hh : QO X W hi fh) : QE X W (.Subscript e (.Slice lo hi none p2) pos) (qSl f fa fl fh) :=
  peI (pe_slice hr he hl hh) fun σ H R ⟨G, B, As, ρ, so, q⟩ => upQ_bind so q fun d G1 H1 v e1 hd fr q1 =>
    ⟨G1, B, As, ρ, so.ext e1, Out.P_mono (Out.P_bind.mp q1) (fun l q2 G2 H2 e2 => ⟨G2, B, As, ρ, (so.ext e1).ext e2, Out.P_mono (Out.P_bind.mp q2) (fun h q3 G3 H3 e3 =>
      hv.go G3 B H3 v d l h R e3.gh (((so.ext e1).ext e2).ext e3).bh (Dt.ext (e2.trans e3) hd) (Out.P_mono (pure_P q3) (fun _ k => k.ext ((e1.trans e2).trans e3)) fun _ z => z)) fun _ z => EX.ext (e1.trans e2) z⟩) fun _ z => EX.ext e1 z⟩

/-! ### methods of texts -/
structure Vm (K : PySem.W.Frag) (r : V → List V → Hp → VK → Prop) (f : D → List D → Out Exn D) : Prop where
  go : ∀ (G B H : Hp) (x : V) (dx : D) (xs : List V) (ds : List D) (R : VK), Same G H → Same B H → Dt K G B H x dx → Dta K G B H xs ds → (f dx ds).P (KQ K G B H R) (fun _ => False) → r x xs H R
def isStr : D → Bool
  | .str _ => true
  | _ => false
def qM1 (f : D → List D → Out Exn D) (fa fb : FQ) : FQ := fun ρ => (fa ρ).bind fun o => if isStr o = true then (fb ρ).bind fun y => (f o [y]).pure else .no
theorem qe_m1 {r : V → List V → Hp → VK → Prop} {f : D → List D → Out Exn D} {name : Str} {id : String} (slot : Slot "str" name id) (ty : typeOf (.builtin id) = pure (.type "method_descriptor")) (rule : MtR X id r) (hv : Vm X.K r f) (ho : QE X W o fa) (he : QE X W e fb)
    (hs : starEach [e] X.env = [(false, eval e X.env)] := by rfl) (hbase : attributeBase o name X.env (eval o X.env) = eval o X.env := by rfl) (hline : (apos.endLine == pos.line) = true := by rfl) :
    QE X W (.Call (.Attribute o name apos) [e] [] pos) (qM1 f fa fb) := peI (pe_m1 slot ty rule ho he hs hbase hline) fun σ H R ⟨G, B, As, ρ, so, q⟩ => upQ_bind so q fun d G1 H1 v e1 hd fr q1 => by
  cases d with
  | str z =>
    have q1' : ((fb ρ).bind fun y => (f (.str z) [y]).pure).P (KQ X.K G B H R) (EX X.K W G B H σ) := by simpa [isStr] using q1
    exact ⟨⟨z, dt_str hd⟩, upQ_bind (so.ext e1) (Out.P_mono q1' (fun _ k => KQ.ext e1 k) fun _ z => EX.ext e1 z) fun d2 G2 H2 v2 e2 hd2 fr2 q2 =>
      hv.go G2 B H2 v _ [v2] [d2] R e2.gh ((so.ext e1).ext e2).bh (Dt.ext e2 hd) (.cons hd2 .nil) (Out.P_mono (pure_P q2) (fun _ k => k.ext e2) fun _ z => z)⟩
  | _ => exact q1.elim
end
end VL

/-! VLd: operators as functions on trees. -/
namespace VL
open PySem PySem.Spec PyProof.Rows L2

theorem kq_atom {K : PySem.W.Frag} {G B H : Hp} {R : VK} {v : V} {d : D} (gh : Same G H) (k : KQ K G B H R d) (h : Dat K G B H [] v d) (f : d.root = none) : R v H := k.given gh ⟨_, h⟩ (Fresh.of (by rw [f]; simp))
theorem kq_int {K : PySem.W.Frag} {G B H : Hp} {R : VK} {i : Int} (gh : Same G H) (k : KQ K G B H R (.int i)) : R (.int i) H := kq_atom gh k (.int i) rfl
theorem kq_b {K : PySem.W.Frag} {G B H : Hp} {R : VK} {i : Bool} (gh : Same G H) (k : KQ K G B H R (.bl i)) : R (.bl i) H := kq_atom gh k (.bl i) rfl
theorem kq_s {K : PySem.W.Frag} {G B H : Hp} {R : VK} {i : Str} (gh : Same G H) (k : KQ K G B H R (.str i)) : R (.str i) H := kq_atom gh k (.str i) rfl
theorem kq_n {K : PySem.W.Frag} {G B H : Hp} {R : VK} (gh : Same G H) (k : KQ K G B H R .non) : R .non H := kq_atom gh k .non rfl

/-! ### numbers -/
def mulOk (i j : Int) : Prop := (-(2 ^ 64) < i ∧ i < 2 ^ 64) ∨ (-(2 ^ 64) < j ∧ j < 2 ^ 64) ∨ (i.natAbs < 2 ^ 4000 ∧ j.natAbs < 2 ^ 4000)
def divOk (j : Int) : Prop := 0 < j ∧ j.natAbs < 2 ^ 8000
instance (i j : Int) : Decidable (mulOk i j) := by unfold mulOk; infer_instance
instance (j : Int) : Decidable (divOk j) := by unfold divOk; infer_instance
def mulV : D → D → Out Exn D
  | .int i, .int j => if mulOk i j then .ok (.int (i * j)) else .no
  | _, _ => .no
def fdivV : D → D → Out Exn D
  | .int i, .int j => if divOk j then .ok (.int (i / j)) else .no
  | _, _ => .no
def modV : D → D → Out Exn D
  | .int i, .int j => if 0 < j then .ok (.int (i % j)) else .no
  | _, _ => .no
def powV : D → D → Out Exn D
  | .int i, .int j => if 0 ≤ j ∧ j ≤ 1000 ∧ -1000 < i ∧ i < 1000 then .ok (.int (i ^ j.toNat)) else .no
  | _, _ => .no
def subV : D → D → Out Exn D
  | .int i, .int j => .ok (.int (i - j))
  | _, _ => .no
def ltV : D → D → Out Exn D
  | .int i, .int j => .ok (.bl (decide (i < j)))
  | .str i, .str j => .ok (.bl (decide (i.cps.toList < j.cps.toList)))
  | _, _ => .no
def leV : D → D → Out Exn D
  | .int i, .int j => .ok (.bl (decide (i ≤ j)))
  | _, _ => .no
def gtV : D → D → Out Exn D
  | .int i, .int j => .ok (.bl (decide (i > j)))
  | _, _ => .no
def geV : D → D → Out Exn D
  | .int i, .int j => .ok (.bl (decide (i ≥ j)))
  | _, _ => .no
def negV : D → Out Exn D
  | .int i => .ok (.int (-i))
  | _ => .no
theorem out_if {α : Type} {c : Prop} [Decidable c] {a : α} {P : α → Prop} {E : Exn → Prop} (h : (if c then Out.ok a else Out.no : Out Exn α).P P E) : c ∧ P a := Out.P_if h
section
variable {K : PySem.W.Frag} {X : Cx}
theorem op_mulU : OpR X (binaryOp .Mult) (fun x y H Q => (rI CMul fun i j => .int (i * j)) x y H Q ∨ (rI CMulW fun i j => .int (i * j)) x y H Q) := op_mul.or op_mulW
theorem v_mul : V2 K (fun x y H Q => (rI CMul fun i j => .int (i * j)) x y H Q ∨ (rI CMulW fun i j => .int (i * j)) x y H Q) mulV := ⟨fun G B H x y dx dy R gh bh d1 d2 h => by
  unfold mulV at h
  split at h
  · obtain ⟨c, k⟩ := out_if h
    have e1 := dt_int d1
    have e2 := dt_int d2
    rcases c with c | c | ⟨c1, c2⟩
    · exact .inl ⟨_, _, e1, e2, .inl c, kq_int gh k⟩
    · exact .inl ⟨_, _, e1, e2, .inr c, kq_int gh k⟩
    · exact .inr ⟨_, _, e1, e2, wide_mul (a := 4000) (b := 4000) c1 c2 (by decide) (by decide) (by decide), kq_int gh k⟩
  · exact h.elim⟩
theorem v_fdiv : V2 K (rI CDivW fun i j => .int (i / j)) fdivV := ⟨fun G B H x y dx dy R gh bh d1 d2 h => by
  unfold fdivV at h
  split at h
  · obtain ⟨c, k⟩ := out_if h
    exact ⟨_, _, dt_int d1, dt_int d2, wide_div (b := 8000) c.1 c.2 (by decide) (by decide), kq_int gh k⟩
  · exact h.elim⟩
theorem v_mod : V2 K (rI (fun _ j => 0 < j) fun i j => .int (i % j)) modV := ⟨fun G B H x y dx dy R gh bh d1 d2 h => by
  unfold modV at h
  split at h
  · obtain ⟨c, k⟩ := out_if h
    exact ⟨_, _, dt_int d1, dt_int d2, c, kq_int gh k⟩
  · exact h.elim⟩
theorem v_pow : V2 K (rI CPow fun i j => .int (i ^ j.toNat)) powV := ⟨fun G B H x y dx dy R gh bh d1 d2 h => by
  unfold powV at h
  split at h
  · obtain ⟨c, k⟩ := out_if h
    exact ⟨_, _, dt_int d1, dt_int d2, ⟨c.1, by omega, by omega⟩, kq_int gh k⟩
  · exact h.elim⟩
theorem v_sub : V2 K (rI0 fun i j => .int (i - j)) subV := ⟨fun G B H x y dx dy R gh bh d1 d2 h => by
  unfold subV at h
  split at h
  · exact ⟨_, _, dt_int d1, dt_int d2, kq_int gh h⟩
  · exact h.elim⟩
theorem op_ltU : OpR X (compareOp .Lt) (fun x y H Q => (rI0 fun i j => .bl (decide (i < j))) x y H Q ∨ ∃ i j, x = .str i ∧ y = .str j ∧ Q (.bl (decide (i.cps.toList < j.cps.toList))) H) := op_lt.or op_lt_str
theorem v_lt : V2 K (fun x y H Q => (rI0 fun i j => .bl (decide (i < j))) x y H Q ∨ ∃ i j, x = .str i ∧ y = .str j ∧ Q (.bl (decide (i.cps.toList < j.cps.toList))) H) ltV := ⟨fun G B H x y dx dy R gh bh d1 d2 h => by
  unfold ltV at h
  split at h
  · exact .inl ⟨_, _, dt_int d1, dt_int d2, kq_b gh h⟩
  · exact .inr ⟨_, _, dt_str d1, dt_str d2, kq_b gh h⟩
  · exact h.elim⟩
theorem v_le : V2 K (rI0 fun i j => .bl (decide (i ≤ j))) leV := ⟨fun G B H x y dx dy R gh bh d1 d2 h => by
  unfold leV at h
  split at h
  · exact ⟨_, _, dt_int d1, dt_int d2, kq_b gh h⟩
  · exact h.elim⟩
theorem v_gt : V2 K (rI0 fun i j => .bl (decide (i > j))) gtV := ⟨fun G B H x y dx dy R gh bh d1 d2 h => by
  unfold gtV at h
  split at h
  · exact ⟨_, _, dt_int d1, dt_int d2, kq_b gh h⟩
  · exact h.elim⟩
theorem v_ge : V2 K (rI0 fun i j => .bl (decide (i ≥ j))) geV := ⟨fun G B H x y dx dy R gh bh d1 d2 h => by
  unfold geV at h
  split at h
  · exact ⟨_, _, dt_int d1, dt_int d2, kq_b gh h⟩
  · exact h.elim⟩
theorem v_neg : V1 K (rU fun i => .int (-i)) negV := ⟨fun G B H x dx R gh bh d1 h => by
  unfold negV at h
  split at h
  · exact ⟨_, dt_int d1, kq_int gh h⟩
  · exact h.elim⟩

/-! ### + -/
def catL (f g : Fl) (xs ys : List D) : Out Exn D := if f ≠ .loc ∧ g ≠ .loc ∧ xs.length + ys.length ≤ sizeLine then .ok (.lst .new (xs ++ ys)) else .no
def addV : D → D → Out Exn D
  | .int i, .int j => .ok (.int (i + j))
  | .str i, .str j => if i.length + j.length ≤ sizeLine then .ok (.str (i ++ j)) else .no
  | .lst f xs, .lst g ys => catL f g xs ys
  | .tup xs, .tup ys => if xs.length + ys.length ≤ sizeLine then .ok (.tup (xs ++ ys)) else .no
  | _, _ => .no

abbrev rAddU (K : PySem.W.Frag) : R2 := fun x y H Q => (rI0 fun i j => .int (i + j)) x y H Q ∨ (∃ i j, x = .str i ∧ y = .str j ∧ i.length + j.length ≤ sizeLine ∧ Q (.str (i ++ j)) H) ∨ rCat x y H Q ∨ rCatA K x y H Q
theorem op_addU : OpR X (binaryOp .Add) (rAddU X.K) := op_add.or (op_add_str.or (op_cat.or op_catA))
theorem v_add : V2 K (rAddU K) addV := ⟨fun G B H x y dx dy R gh bh d1 d2 h => by
  unfold addV at h
  split at h
  · exact .inl ⟨_, _, dt_int d1, dt_int d2, kq_int gh h⟩
  · obtain ⟨c, k⟩ := out_if h
    exact .inr (.inl ⟨_, _, dt_str d1, dt_str d2, c, kq_s gh k⟩)
  · obtain ⟨⟨c1, c2, c3⟩, k⟩ := out_if h
    obtain ⟨p, vs, rfl, hp, hs⟩ := dt_lstX gh bh c1 d1
    obtain ⟨q, ws, rfl, hq, ht⟩ := dt_lstX gh bh c2 d2
    exact .inr (.inr (.inl ⟨p, q, vs, ws, rfl, rfl, hp, hq, by rw [hs.length, ht.length]; exact c3, fun r hr => KQ.floorL gh hr (hs.append ht) k⟩))
  · obtain ⟨c, k⟩ := out_if h
    obtain ⟨p, vs, rfl, hp, hp2, hs⟩ := dt_tup gh d1
    obtain ⟨q, ws, rfl, hq, hq2, ht⟩ := dt_tup gh d2
    refine .inr (.inr (.inr ⟨p, q, vs, ws, rfl, rfl, hp, hq, by rw [hs.length, ht.length]; exact c, fun e => ?_, fun _ e => ?_, fun _ _ r hr => KQ.floorT gh hr (hs.append ht) k⟩))
    · subst e
      have e2 := List.eq_nil_of_length_eq_zero hs.length.symm
      rw [e2, List.nil_append] at k
      exact k.given gh d2 (Fresh.of (by simp [D.root]))
    · subst e
      have e2 := List.eq_nil_of_length_eq_zero ht.length.symm
      rw [e2, List.append_nil] at k
      exact k.given gh d1 (Fresh.of (by simp [D.root]))
  · exact h.elim⟩

/-! ### data as trees: equality -/
mutual
def D.pd : D → PyData
  | .bl b => .bool b
  | .int i => .int i
  | .str x => .str x
  | .tup xs => .tuple (D.pdL xs)
  | .tuk xs => .tuple (D.pdL xs)
  | .lst _ xs => .list (D.pdL xs)
  | _ => .none
def D.pdL : List D → List PyData
  | [] => []
  | d :: ds => D.pd d :: D.pdL ds
end
mutual
/-- data of depth n at most -/
def D.ok : Nat → D → Bool
  | _, .non => true
  | _, .bl _ => true
  | _, .int _ => true
  | _, .str x => PyData.strOk x
  | n + 1, .tup xs => D.okL n xs
  | n + 1, .tuk xs => D.okL n xs
  | n + 1, .lst _ xs => D.okL n xs
  | _, _ => false
def D.okL : Nat → List D → Bool
  | _, [] => true
  | n, d :: ds => D.ok n d && D.okL n ds
end
mutual
theorem ok_shape : ∀ (n : Nat) (d : D), D.ok n d = true → (D.pd d).canLay0 = true ∧ (D.pd d).depth ≤ n
  | n, .non, _ => by simp [D.pd, PyData.canLay0, PyData.depth]
  | n, .bl b, _ => by simp [D.pd, PyData.canLay0, PyData.depth]
  | n, .int i, _ => by simp [D.pd, PyData.canLay0, PyData.depth]
  | n, .str x, h => by
    have h' : PyData.strOk x = true := by cases n <;> simpa [D.ok] using h
    simp [D.pd, PyData.canLay0, PyData.depth, h']
  | n + 1, .tup xs, h => by
    obtain ⟨h1, h2⟩ := okL_shape n xs (by simpa [D.ok] using h)
    simp [D.pd, PyData.canLay0, PyData.depth, h1]; omega
  | n + 1, .tuk xs, h => by
    obtain ⟨h1, h2⟩ := okL_shape n xs (by simpa [D.ok] using h)
    simp [D.pd, PyData.canLay0, PyData.depth, h1]; omega
  | n + 1, .lst _ xs, h => by
    obtain ⟨h1, h2⟩ := okL_shape n xs (by simpa [D.ok] using h)
    simp [D.pd, PyData.canLay0, PyData.depth, h1]; omega
  | 0, .tup xs, h => by simp [D.ok] at h
  | 0, .tuk xs, h => by simp [D.ok] at h
  | 0, .lst _ xs, h => by simp [D.ok] at h
  | n, .ty _, h => by cases n <;> simp [D.ok] at h
  | n, .ref _, h => by cases n <;> simp [D.ok] at h
  | n, .dic _ _, h => by cases n <;> simp [D.ok] at h
  | n, .dit _ _, h => by cases n <;> simp [D.ok] at h
  | n, .obj _ _ _, h => by cases n <;> simp [D.ok] at h
theorem okL_shape : ∀ (n : Nat) (ds : List D), D.okL n ds = true → PyData.canLayAll0 (D.pdL ds) = true ∧ PyData.depthAll (D.pdL ds) ≤ n
  | n, [], _ => by simp [D.pdL, PyData.canLayAll0, PyData.depthAll]
  | n, d :: ds, h => by
    rw [D.okL, Bool.and_eq_true] at h
    obtain ⟨h1, h2⟩ := ok_shape n d h.1
    obtain ⟨h3, h4⟩ := okL_shape n ds h.2
    simp [D.pdL, PyData.canLayAll0, PyData.depthAll, h1, h3]; omega
end
theorem ok_shaped {d : D} (h : D.ok 64 d = true) : SeqAt.shaped (D.pd d) = true := by
  obtain ⟨h1, h2⟩ := ok_shape 64 d h
  unfold SeqAt.shaped
  rw [h1, decide_eq_true h2] <;> rfl
mutual
theorem dat_dp {G B H : Hp} (s : Same G H) (b : Same B H) : ∀ {n : Nat} {S : List Addr} {v : V} {d : D}, D.ok n d = true → Dat K G B H S v d → Dp K H v (D.pd d)
  | _, _, _, _, _, .non => .non
  | _, _, _, _, _, .bl b => .bl b
  | _, _, _, _, _, .int i => .int i
  | _, _, _, _, _, .str x => .str x
  | n + 1, _, _, _, h, .tup hT hs => .tup (Same.sqT s hT.sq) (dats_dp s b (n := n) (by simpa [D.ok] using h) hs)
  | n + 1, _, _, _, h, .tuk hT hs => .tup (Same.sqT s hT) (dats_dp s b (n := n) (by simpa [D.ok] using h) hs)
  | n + 1, _, _, _, h, .lst hT hs => .lst (SqL.of (Nd.here s b hT)) (dats_dp s b (n := n) (by simpa [D.ok] using h) hs)
  | n + 1, _, _, _, h, .lok hT hs => .lst (hT.elim b.seq s.seq) (dats_dp s b (n := n) (by simpa [D.ok] using h) hs)
  | 0, _, _, _, h, .tup hT hs => by simp [D.ok] at h
  | 0, _, _, _, h, .tuk hT hs => by simp [D.ok] at h
  | 0, _, _, _, h, .lst hT hs => by simp [D.ok] at h
  | 0, _, _, _, h, .lok hT hs => by simp [D.ok] at h
  | n, _, _, _, h, .ty _ => by cases n <;> simp [D.ok] at h
  | n, _, _, _, h, .ref _ => by cases n <;> simp [D.ok] at h
  | n, _, _, _, h, .dic _ _ => by cases n <;> simp [D.ok] at h
  | n, _, _, _, h, .dit _ _ => by cases n <;> simp [D.ok] at h
  | n, _, _, _, h, .obj _ _ => by cases n <;> simp [D.ok] at h
theorem dats_dp {G B H : Hp} (s : Same G H) (b : Same B H) : ∀ {n : Nat} {S : List Addr} {v : List V} {d : List D}, D.okL n d = true → Dats K G B H S v d → DpAll K H v (D.pdL d)
  | _, _, _, _, _, .nil => .nil
  | n, _, _, _, h, .cons _ h1 t => by
    rw [D.okL, Bool.and_eq_true] at h
    exact .cons (dat_dp s b h.1 h1) (dats_dp s b h.2 t)
end
/-- == of trees -/
def deq (x y : D) : Bool := PyData.eqv (D.pd x) (D.pd y)
def deqL (x y : List D) : Bool := PyData.eqvAll (D.pdL x) (D.pdL y)
def flatD : D → Option V
  | .non => some .non
  | .bl b => some (.bl b)
  | .int i => some (.int i)
  | .str x => some (.str x)
  | _ => none
def flatDs : List D → Option (List V)
  | [] => some []
  | d :: ds => match flatD d, flatDs ds with
    | some v, some vs => some (v :: vs)
    | _, _ => none
theorem flat_dt {G B H : Hp} {v u : V} {d : D} (h : Dt K G B H v d) (e : flatD d = some u) : v = u ∧ flatV v = true := by
  obtain ⟨_, h⟩ := h
  cases h <;> cases e <;> exact ⟨rfl, rfl⟩
theorem flats_dt {G B H : Hp} : ∀ {vs us : List V} {ds : List D}, Dts K G B H vs ds → flatDs ds = some us → vs = us ∧ vs.all flatV = true
  | [], us, [], _, e => by cases e; exact ⟨rfl, rfl⟩
  | [], _, _ :: _, h, _ => by have := h.length; simp at this
  | _ :: _, _, [], h, _ => by have := h.length; simp at this
  | v :: vs, us, d :: ds, h, e => by
    obtain ⟨_, h, t⟩ := h.uncons
    unfold flatDs at e
    cases e1 : flatD d with
    | none => rw [e1] at e; cases e
    | some v' =>
      cases e2 : flatDs ds with
      | none => rw [e1, e2] at e; cases e
      | some vs' =>
        rw [e1, e2] at e
        cases e
        obtain ⟨rfl, f1⟩ := flat_dt h e1
        obtain ⟨rfl, f2⟩ := flats_dt t e2
        exact ⟨rfl, by rw [List.all_cons, f1, f2] <;> rfl⟩
/-- x == y: plain things by their kinds, data through and through -/
def eqB (x y : D) : Option Bool := match x, y with
  | .int i, .int j => some (decide (i = j))
  | .str i, .str j => some (decide (i = j))
  | .bl i, .bl j => some (decide (i = j))
  | .non, .non => some true
  | x, y => match flatD x, flatD y with
    | some u, some v => if scal u v = true then some (decide (u = v)) else if D.ok 64 x = true ∧ D.ok 64 y = true then some (deq x y) else none
    | _, _ => if D.ok 64 x = true ∧ D.ok 64 y = true then some (deq x y) else none
def outB (neg : Bool) (o : Option Bool) : Out Exn D := match o with
  | some b => .ok (.bl (if neg = true then !b else b))
  | none => .no
def eqV (x y : D) : Out Exn D := outB false (eqB x y)
def neV (x y : D) : Out Exn D := outB true (eqB x y)
theorem eqB_rd {G B H : Hp} {x y : V} {dx dy : D} {b : Bool} (gh : Same G H) (bh : Same B H) (d1 : Dt K G B H x dx) (d2 : Dt K G B H y dy) (h : eqB dx dy = some b) :
    (scal x y = true ∧ b = decide (x = y)) ∨ ∃ d e, Dp K H x d ∧ Dp K H y e ∧ SeqAt.shaped d = true ∧ SeqAt.shaped e = true ∧ b = PyData.eqv d e := by
  have deep : ∀ {dx dy : D}, Dt K G B H x dx → Dt K G B H y dy → (if D.ok 64 dx = true ∧ D.ok 64 dy = true then some (deq dx dy) else none) = some b →
      ∃ d e, Dp K H x d ∧ Dp K H y e ∧ SeqAt.shaped d = true ∧ SeqAt.shaped e = true ∧ b = PyData.eqv d e := fun {dx dy} d1 d2 h => by
    by_cases hc : D.ok 64 dx = true ∧ D.ok 64 dy = true
    · rw [if_pos hc] at h
      cases h
      obtain ⟨_, d1⟩ := d1
      obtain ⟨_, d2⟩ := d2
      exact ⟨_, _, dat_dp gh bh hc.1 d1, dat_dp gh bh hc.2 d2, ok_shaped hc.1, ok_shaped hc.2, rfl⟩
    · rw [if_neg hc] at h; cases h
  unfold eqB at h
  split at h
  · cases h; rw [dt_int d1, dt_int d2]; exact .inl ⟨rfl, by simp⟩
  · cases h; rw [dt_str d1, dt_str d2]; exact .inl ⟨rfl, by simp⟩
  · cases h; rw [dt_bl d1, dt_bl d2]; exact .inl ⟨rfl, by simp⟩
  · cases h; rw [dt_non d1, dt_non d2]; exact .inl ⟨rfl, by simp⟩
  · split at h
    · rename_i u v e1 e2
      by_cases hs : scal u v = true
      · rw [if_pos hs] at h
        cases h
        obtain ⟨rfl, _⟩ := flat_dt d1 e1
        obtain ⟨rfl, _⟩ := flat_dt d2 e2
        exact .inl ⟨hs, rfl⟩
      · rw [if_neg hs] at h
        exact .inr (deep d1 d2 h)
    · exact .inr (deep d1 d2 h)
theorem outB_P {neg : Bool} {o : Option Bool} {P : D → Prop} {E : Exn → Prop} (h : (outB neg o).P P E) : ∃ b, o = some b ∧ P (.bl (if neg = true then !b else b)) := by
  cases o with
  | none => exact h.elim
  | some b => exact ⟨b, rfl, h⟩
theorem op_eqU (hu : X.A.units + 64 < cLine) : OpR X (compareOp .Eq) (fun x y H Q => rEq x y H Q ∨ rEqD X.K x y H Q) := op_eq.or (op_eqD hu)
theorem op_neU (hu : X.A.units + 64 < cLine) : OpR X (compareOp .NotEq) (fun x y H Q => rNe x y H Q ∨ rNeD X.K x y H Q) := op_ne.or (op_neD hu)
theorem v_eq : V2 K (fun x y H Q => rEq x y H Q ∨ rEqD K x y H Q) eqV := ⟨fun G B H x y dx dy R gh bh d1 d2 h => by
  obtain ⟨b, e, k⟩ := outB_P h
  rcases eqB_rd gh bh d1 d2 e with ⟨h1, h2⟩ | ⟨d, d', h1, h2, h3, h4, h5⟩
  · exact .inl ⟨h1, by rw [← h2]; exact kq_b gh (by simpa using k)⟩
  · exact .inr ⟨d, d', h1, h2, h3, h4, by rw [← h5]; exact kq_b gh (by simpa using k)⟩⟩
theorem v_ne : V2 K (fun x y H Q => rNe x y H Q ∨ rNeD K x y H Q) neV := ⟨fun G B H x y dx dy R gh bh d1 d2 h => by
  obtain ⟨b, e, k⟩ := outB_P h
  rcases eqB_rd gh bh d1 d2 e with ⟨h1, h2⟩ | ⟨d, d', h1, h2, h3, h4, h5⟩
  · exact .inl ⟨h1, by rw [← h2]; exact kq_b gh (by simpa using k)⟩
  · exact .inr ⟨d, d', h1, h2, h3, h4, by rw [← h5]; exact kq_b gh (by simpa using k)⟩⟩
def D.isN : D → Bool
  | .non => true
  | _ => false
/-- is None, is True -/
def isV : D → D → Out Exn D
  | x, .non => .ok (.bl x.isN)
  | .bl a, .bl b => .ok (.bl (decide (a = b)))
  | _, _ => .no
def isnV : D → D → Out Exn D
  | x, .non => .ok (.bl (!x.isN))
  | .bl a, .bl b => .ok (.bl (!decide (a = b)))
  | _, _ => .no
theorem isN_dt {G B H : Hp} {x : V} {d : D} (h : Dt K G B H x d) : decide (x = .non) = d.isN := by
  obtain ⟨_, h⟩ := h
  cases h <;> simp [D.isN]
abbrev rIsU : R2 := fun x y H Q => (y = .non ∧ Q (.bl (decide (x = .non))) H) ∨ rIsB x y H Q
abbrev rIsnU : R2 := fun x y H Q => (y = .non ∧ Q (.bl (!decide (x = .non))) H) ∨ rNotB x y H Q
theorem op_isU : OpR X (compareOp .Is) rIsU := op_isN.or op_isBl
theorem op_isnU : OpR X (compareOp .IsNot) rIsnU := op_notN.or op_notBl
theorem v_is : V2 K rIsU isV := ⟨fun G B H x y dx dy R gh bh d1 d2 h => by
  unfold isV at h
  split at h
  · exact .inl ⟨dt_non d2, by rw [isN_dt d1]; exact kq_b gh h⟩
  · exact .inr ⟨_, _, dt_bl d1, dt_bl d2, kq_b gh h⟩
  · exact h.elim⟩
theorem v_isn : V2 K rIsnU isnV := ⟨fun G B H x y dx dy R gh bh d1 d2 h => by
  unfold isnV at h
  split at h
  · exact .inl ⟨dt_non d2, by rw [isN_dt d1]; exact kq_b gh h⟩
  · exact .inr ⟨_, _, dt_bl d1, dt_bl d2, kq_b gh h⟩
  · exact h.elim⟩
end
end VL

/-! DLs: sets of tuples, whatever plain things the tuples hold. -/
namespace VL
namespace SG
open PySem PySem.Spec PyProof.Rows L2
variable {P : Program} {w : World} {κ : Type} [DecidableEq κ]
/-- plain things answer two small questions at once -/
structure Calm (kd : KeyKind P w κ) : Prop where
  st : ∀ (n : Nat) (k : κ) (v : Value), kd.is k v = true → ofAClassStatement n v = pure false
  bv : ∀ (n : Nat) (k : κ) (v : Value), kd.is k v = true → ∃ r, hashByValue n v = pure r
abbrev Tp (kd : KeyKind P w κ) (h : Heap) (k : List κ) (b : Addr) : Prop := IsTupleKey kd h k b
abbrev hsh (kd : KeyKind P w κ) (k : List κ) : Int := tupleKeyHash kd k
abbrev prb (m : Nat) (g : Int) (c : Nat) : SetTable.Probe := nth m (runAt m (SetTable.bits g % (m + 1)) (SetTable.bits g)) c
theorem prb_add (m : Nat) (g : Int) (c q : Nat) : nth m (prb m g c) q = prb m g (c + q) := (nth_add m c _ q).symm
theorem nth_dummy (m : Nat) : ∀ (n : Nat) (p : SetTable.Probe), p.dummy = none → (nth m p n).dummy = none
  | 0, _, h => h
  | n + 1, p, h => nth_dummy m n (adv m p) (by unfold adv; split <;> exact h)
/-- the entries of a set that holds the tuples L -/
def ent (kd : KeyKind P w κ) (L : List (Addr × List κ)) : List (Int × Value) := L.map fun e => (hsh kd e.2, .ref e.1)
structure St (kd : KeyKind P w κ) (h : Heap) (a : Addr) (L : List (Addr × List κ)) (es : Array (Int × Value)) (ep : Nat) (t : SetTable) : Prop where
  obj : ∃ o, h.get? a = some o ∧ o.ExactSet ∧ o.data = .set es ep t
  lst : es.toList = ent kd L
  tab : TabOk t (L.map fun e => hsh kd e.2)
  inj : (L.map Prod.snd).Nodup
  mem : ∀ e ∈ L, Tp kd h e.2 e.1
  cal : w.params.followText "set-order" = true ∨ t.led = true
  cap : L.length * 5 < t.mask * 3 ∧ L.length < 64
section
variable {kd : KeyKind P w κ} {A : Around} {E : Value → Shared → Prop} {s : Shared}
theorem ent_size {L : List (Addr × List κ)} {es : Array (Int × Value)} (h : es.toList = ent kd L) : es.size = L.length := by
  rw [← Array.length_toList, h, ent, List.length_map]
theorem ent_get {L : List (Addr × List κ)} {es : Array (Int × Value)} (h : es.toList = ent kd L) {i : Nat} {e : Addr × List κ} (he : L[i]? = some e) : es[i]? = some (hsh kd e.2, .ref e.1) := by
  rw [← Array.getElem?_toList, h, ent, List.getElem?_map, he]; rfl
theorem St.sizes {a : Addr} {L : List (Addr × List κ)} {es : Array (Int × Value)} {ep : Nat} {t : SetTable} (S : St kd s.heap a L es ep t) : t.place.size = L.length := by
  have := S.tab.sz
  rwa [List.length_map] at this
theorem St.fits {a : Addr} {L : List (Addr × List κ)} {es : Array (Int × Value)} {ep : Nat} {t : SetTable} (S : St kd s.heap a L es ep t) : t.fits es.size = true := by
  have q1 := S.sizes
  have q2 := ent_size S.lst
  have q3 := S.cap.1
  unfold SetTable.fits SetTable.fill
  rw [S.tab.dm, Bool.and_eq_true, beq_iff_eq, decide_eq_true_eq]
  exact ⟨by omega, by show t.place.size + 0 ≤ t.mask; omega⟩
/-- whatever asks each item of a tuple -/
theorem items_ask {ks : List κ} {vs : List Value} (h : ItemsAre kd ks vs) : ∀ v ∈ vs, ∃ k, kd.is k v = true := by
  induction h with
  | nil => exact fun v hv => nomatch hv
  | cons h1 _ ih =>
    intro v hv
    cases hv with
    | head => exact ⟨_, h1⟩
    | tail _ hv => exact ih v hv
theorem st_tup (cm : Calm kd) {k : List κ} {b : Addr} {Q : Bool → Shared → Prop} (hk : Tp kd s.heap k b) (h : Q false s) : wpAny (model P w) A (ofAClassStatement 8 (.ref b)) Q E s := by
  have ty := hk.typeIs
  obtain ⟨o, its, n, get, _, dat, are⟩ := hk
  unfold ofAClassStatement
  refine wpAny_bind (wpAny_typeOf ty ?_)
  dsimp only
  simp only [show (("tuple" : String) == "tuple") = true by decide, if_true, Bool.not_true, Bool.false_eq_true, if_false]
  try refine wpAny_bind (wpAny_pure ?_)
  try simp only [Bool.not_true, Bool.false_eq_true, if_false]
  show wpAny _ _ (seqItems? (.ref b) >>= _) _ _ s
  refine wpAny_bind (wpAny_seqItems get dat ?_)
  dsimp only
  refine wpAny_bind ?_
  show wpAny _ _ (forIn its _ _) _ _ s
  rw [← Array.forIn_toList]
  refine wpAny_forIn_list _ (fun left r z => (r.1 = none ∧ z = s) ∧ ∀ v ∈ left, ∃ k, kd.is k v = true) _ (fun v left r z ⟨⟨r1, r2⟩, q⟩ => ?_) (fun r z ⟨⟨r1, r2⟩, q⟩ => ?_) _ _ ⟨⟨rfl, rfl⟩, items_ask are⟩
  · obtain ⟨k, hk⟩ := q v (List.mem_cons_self ..)
    rw [cm.st _ k v hk]
    refine wpAny_bind (wpAny_pure ?_)
    simp only [Bool.false_eq_true, if_false]
    exact wpAny_pure ⟨⟨rfl, r2⟩, fun u hu => q u (List.mem_cons_of_mem _ hu)⟩
  · obtain ⟨x, y⟩ := r
    simp only at r1
    subst r1 r2
    exact wpAny_pure h
theorem bv_tup (cm : Calm kd) {k : List κ} {b : Addr} {Q : Bool → Shared → Prop} (hk : Tp kd s.heap k b) (h : ∀ r, Q r s) : wpAny (model P w) A (hashByValue 8 (.ref b)) Q E s := by
  have ty := hk.typeIs
  obtain ⟨o, its, n, get, _, dat, are⟩ := hk
  unfold hashByValue
  refine wpAny_bind (wpAny_specialOf ty F.slot_tuple_hash.lookup ?_)
  show wpAny _ _ (seqItems? (.ref b) >>= _) _ _ s
  refine wpAny_bind (wpAny_seqItems get dat ?_)
  refine wpAny_bind ?_
  show wpAny _ _ (forIn its _ _) _ _ s
  rw [← Array.forIn_toList]
  refine wpAny_forIn_list _ (fun left r z => (r.1 = none ∧ z = s) ∧ ∀ v ∈ left, ∃ k, kd.is k v = true) _ (fun v left r z ⟨⟨r1, r2⟩, q⟩ => ?_) (fun r z ⟨⟨r1, r2⟩, q⟩ => ?_) _ _ ⟨⟨rfl, rfl⟩, items_ask are⟩
  · obtain ⟨k, hk⟩ := q v (List.mem_cons_self ..)
    obtain ⟨r0, e⟩ := cm.bv _ k v hk
    rw [e]
    subst r2
    refine wpAny_bind (wpAny_pure ?_)
    cases r0 with
    | true =>
      simp only [Bool.not_true, Bool.false_eq_true, if_false]
      exact wpAny_pure ⟨⟨rfl, rfl⟩, fun u hu => q u (List.mem_cons_of_mem _ hu)⟩
    | false =>
      simp only [Bool.not_false, if_true]
      exact wpAny_pure (wpAny_pure (h false))
  · obtain ⟨x, y⟩ := r
    simp only at r1
    subst r1 r2
    exact wpAny_pure (h true)
theorem see_tup (cm : Calm kd) {k : List κ} {b : Addr} {Q : Bool → Shared → Prop} (hk : Tp kd s.heap k b) {ys : List Value} (hy : ∀ y ∈ ys, ∃ k' c, y = Value.ref c ∧ Tp kd s.heap k' c) (h : Q false s) :
    wpAny (model P w) A (searchCouldBeSeen (.ref b) ys) Q E s := by
  unfold searchCouldBeSeen
  refine wpAny_bind (wpAny_forIn_list _ (fun left r z => (r.1 = none ∧ z = s) ∧ ∀ y ∈ left, ∃ k' c, y = Value.ref c ∧ Tp kd s.heap k' c) _ (fun v left r z ⟨⟨r1, r2⟩, q⟩ => ?_) (fun r z ⟨⟨r1, r2⟩, q⟩ => ?_) _ _ ⟨⟨rfl, rfl⟩, hy⟩)
  · subst r2
    obtain ⟨k', c, e, hc⟩ := q v (List.mem_cons_self ..)
    subst e
    have on : ∀ y ∈ left, ∃ k' c, y = Value.ref c ∧ Tp kd z.heap k' c := fun u hu => q u (List.mem_cons_of_mem _ hu)
    dsimp only
    by_cases same : (b == c || (carriedByValue (.ref b) && carriedByValue (.ref c))) = true
    · exact wp_if_pos same (wpAny_pure ⟨⟨rfl, rfl⟩, on⟩)
    · refine wp_if_neg same (wpAny_bind (wpAny_eqIsQuiet_tuple hk ?_))
      simp only [Bool.not_true, Bool.false_eq_true, if_false]
      refine wpAny_bind (wpAny_eqIsQuiet_tuple hc ?_)
      simp only [Bool.not_true, Bool.false_eq_true, if_false]
      refine wpAny_bind (st_tup cm hk ?_)
      simp only [Bool.false_eq_true, if_false]
      refine wpAny_bind (st_tup cm hc ?_)
      simp only [Bool.false_eq_true, if_false]
      exact wpAny_pure ⟨⟨rfl, rfl⟩, on⟩
  · obtain ⟨x, y⟩ := r
    simp only at r1
    subst r1 r2
    exact wpAny_pure h
/-! ### seeking -/
section
variable {a : Addr} {L : List (Addr × List κ)} {es : Array (Int × Value)} {ep : Nat} {t : SetTable}
theorem St.hashAt (S : St kd s.heap a L es ep t) {i : Nat} {e : Addr × List κ} (h : L[i]? = some e) : (fun i => (es[i]?.map (·.1)).getD 0) i = hsh kd e.2 := by
  show (es[i]?.map (·.1)).getD 0 = _
  rw [ent_get S.lst h]; rfl
/-- n steps before the first empty slot of the way -/
theorem seek (cm : Calm kd) (S : St kd s.heap a L es ep t) {b : Addr} {k : List κ} (hb : Tp kd s.heap k b) (hu : A.units < cLine) {K : Nat} (big : K < 10 * SetTable.turns t.mask) (free : way t.mask (hsh kd k) K ∉ t.place.toList)
    (full : ∀ c, c < K → way t.mask (hsh kd k) c ∈ t.place.toList) {Q : SetFound → Shared → Prop} (yes : k ∈ L.map Prod.snd → Q (.there none) s) (no : k ∉ L.map Prod.snd → Q (.free (way t.mask (hsh kd k) K) false) s) (n : Nat) :
    ∀ (c f : Nat) (at0 : Option SetTable.Probe), c + n = K → n < f → at0.getD (t.probeStart (hsh kd k)) = prb t.mask (hsh kd k) c →
      (∀ (i : Nat) (e : Addr × List κ), L[i]? = some e → e.2 = k → ∃ d, c ≤ d ∧ d < K ∧ t.place.toList[i]? = some (way t.mask (hsh kd k) d)) → wpAny (model P w) A (setSearchFrom a (.ref b) (hsh kd k) true f at0) Q E s := by
  induction n using Nat.strongRecOn with
  | ind n ih =>
    intro c f at0 hc hf h0 ahead
    obtain ⟨f, rfl⟩ : ∃ g, f = g + 1 := ⟨f - 1, by omega⟩
    obtain ⟨o, get, ex, dat⟩ := S.obj
    have gw : ¬ t.gaveWay = true := by
      unfold SetTable.gaveWay
      rw [mask_odd S.tab.mok]
      decide
    have jq : ∀ q, (nth t.mask (prb t.mask (hsh kd k) c) q).j = way t.mask (hsh kd k) (c + q) := fun q => by rw [prb_add]
    have asked := go_spec t S.tab.ris S.tab.dm (fun i => (es[i]?.map (·.1)).getD 0) (hsh kd k) (10 * SetTable.turns t.mask) n (prb t.mask (hsh kd k) c) (nth_dummy _ _ _ rfl) (by omega)
      (fun q hq => by rw [jq]; exact full _ (by omega)) (by rw [jq, hc]; exact free)
    rw [setSearchFrom_succ]
    refine wpAny_bind (wpAny_setState_of get dat S.fits ?_)
    dsimp only
    refine wp_if_neg gw ?_
    try refine wpAny_bind (wpAny_pure ?_)
    rcases asked with ⟨q, i, hq, hi, _, first, go⟩ | ⟨none_, go⟩
    · have pr : t.probe (fun i => (es[i]?.map (·.1)).getD 0) (hsh kd k) (at0.getD (t.probeStart (hsh kd k))) = some (.candidate (way t.mask (hsh kd k) (c + q)) i (prb t.mask (hsh kd k) (c + (q + 1)))) := by
        rw [h0, ← jq q, ← prb_add]
        exact go
      rw [jq] at hi
      have il : i < L.length := by
        have := (List.getElem?_eq_some_iff.mp hi).1
        rw [Array.length_toList, S.sizes] at this
        exact this
      obtain ⟨e, he⟩ : ∃ e, L[i]? = some e := ⟨L[i], List.getElem?_eq_getElem il⟩
      have em := List.mem_of_getElem? he
      have sl : t.slot (way t.mask (hsh kd k) (c + q)) = .live i := slot_live S.tab.ris hi
      have rest : wpAny (model P w) A (searchRest a (.ref b) (hsh kd k) true f es t (way t.mask (hsh kd k) (c + q)) i (prb t.mask (hsh kd k) (c + (q + 1)))) Q E s := by
        unfold searchRest
        rw [ent_get S.lst he]
        dsimp only
        refine wpAny_bind (wpAny_holding (wpAny_eqBool_tuple hu (S.mem e em) hb (wpAny_bind (wpAny_setState_of get dat S.fits ?_))))
        dsimp only
        by_cases eq : e.2 = k
        · exact wp_if_pos (by simp [eq]) (wpAny_pure (yes (List.mem_map.mpr ⟨e, em, eq⟩)))
        · refine wp_if_neg (by simp [eq]) ?_
          try refine wpAny_bind (wpAny_pure ?_)
          rw [sameMem]
          dsimp only
          simp only [if_true, sl, ent_get S.lst he]
          refine wpAny_bind (wpAny_isSame_ref_self (wpAny_bind (wpAny_pure ?_)))
          simp only [if_true]
          refine wp_if_neg (by simp [eq]) (ih (n - (q + 1)) (by omega) (c + (q + 1)) f _ (by omega) (by omega) rfl fun i' e' he' ke => ?_)
          obtain ⟨d, d1, d2, d3⟩ := ahead i' e' he' ke
          refine ⟨d, ?_, d2, d3⟩
          refine Nat.lt_of_not_le fun le0 => ?_
          have le : d ≤ c + q := le0
          have hsame := (S.hashAt he').trans (congrArg (hsh kd) ke)
          rcases Nat.lt_or_eq_of_le le with lt | eqd
          · exact first (d - c) i' (by omega) (by rw [jq, show c + (d - c) = d by omega]; exact d3) hsame
          · subst eqd
            have sl2 := slot_live S.tab.ris d3
            rw [sl] at sl2
            injection sl2 with ii
            subst ii
            rw [he] at he'
            cases he'
            exact eq ke
      rw [pr]
      dsimp only
      by_cases led : t.led = true
      · refine wp_if_neg (by simp [led]) ?_
        try refine wpAny_bind (wpAny_pure ?_)
        exact rest
      · refine wp_if_pos (by simp [led]) (wpAny_bind (see_tup cm hb (fun y hy => ?_) (wp_if_neg (by decide) ?_)))
        · obtain ⟨x, hx, rfl⟩ := List.mem_map.mp hy
          have hx2 : x ∈ es.toList := by
            have : x ∈ es ∧ x.1 = hsh kd k := by simpa using hx
            simpa using this.1
          rw [S.lst] at hx2
          obtain ⟨e2, m2, rfl⟩ := List.mem_map.mp hx2
          exact ⟨e2.2, e2.1, rfl, S.mem e2 m2⟩
        · try refine wpAny_bind (wpAny_pure ?_)
          exact rest
    · have pr : t.probe (fun i => (es[i]?.map (·.1)).getD 0) (hsh kd k) (at0.getD (t.probeStart (hsh kd k))) = some (.empty (way t.mask (hsh kd k) K) none) := by
        rw [h0, ← hc, ← jq n]
        exact go
      rw [pr]
      dsimp only
      refine wpAny_pure (no fun hm => ?_)
      obtain ⟨e, em, ke⟩ := List.mem_map.mp hm
      obtain ⟨i, he⟩ := List.getElem?_of_mem em
      obtain ⟨d, d1, d2, d3⟩ := ahead i e he ke
      exact none_ (d - c) i (by omega) (by rw [jq, show c + (d - c) = d by omega]; exact d3) ((S.hashAt he).trans (congrArg (hsh kd) ke))
/-- .. as adding asks -/
theorem seek_at (cm : Calm kd) (S : St kd s.heap a L es ep t) {b : Addr} {k : List κ} (hb : Tp kd s.heap k b) (hu : A.units < cLine) {Q : SetFound → Shared → Prop} (yes : k ∈ L.map Prod.snd → Q (.there none) s)
    (no : ∀ K, k ∉ L.map Prod.snd → way t.mask (hsh kd k) K ∉ t.place.toList → (∀ c, c < K → way t.mask (hsh kd k) c ∈ t.place.toList) → Q (.free (way t.mask (hsh kd k) K) false) s) : wpAny (model P w) A (setSearch a (.ref b) (hsh kd k) true) Q E s := by
  have cap := S.cap.1
  obtain ⟨K, big, free, full⟩ := S.tab.first (by rw [List.length_map]; omega) (hsh kd k)
  have small : 10 * SetTable.turns t.mask ≤ 1420 := by
    unfold SetTable.turns
    rcases S.tab.mok with m | m | m <;> omega
  unfold setSearch
  refine seek cm S hb hu big free full yes (fun q => no K q free full) K 0 100000 none (by omega) (by omega) rfl fun i e he ke => ?_
  have il : i < t.place.toList.length := by
    rw [Array.length_toList, S.sizes]
    exact (List.getElem?_eq_some_iff.mp he).1
  have hi : (L.map fun e => hsh kd e.2)[i]? = some (hsh kd k) := by rw [List.getElem?_map, he, ← ke]; rfl
  obtain ⟨d, d1, d2⟩ := S.tab.before free hi (List.getElem?_eq_getElem il)
  exact ⟨d, Nat.zero_le _, d1, by rw [List.getElem?_eq_getElem il, d2]⟩
end
end
/-! ### adding -/
section
variable {kd : KeyKind P w κ} {A : Around} {E : Value → Shared → Prop} {s : Shared}
theorem Tp.but {h h' : Heap} {k : List κ} {a b : Addr} {o : Obj} {es : Array (Int × Value)} {ep : Nat} {t : SetTable} (q : Tp kd h k b) (get : h.get? a = some o) (dat : o.data = .set es ep t) (sb : Heap.SameBut a h h') : Tp kd h' k b := by
  obtain ⟨o', its, n, g', c', d', are⟩ := q
  have ne : b ≠ a := fun e => by
    subst e
    cases get.symm.trans g'
    cases dat.symm.trans d'
  exact ⟨o', its, n, by rw [sb.2 b ne]; exact g', c', d', are⟩
/-- the entries in another order -/
theorem pick_all {L : List (Addr × List κ)} : ∀ n, n ≤ L.length → (List.range n).filterMap (fun i => L[i]?) = L.take n
  | 0, _ => rfl
  | n + 1, h => by
    have g : L[n]? = some L[n] := List.getElem?_eq_getElem h
    rw [List.range_succ, List.filterMap_append, pick_all n (Nat.le_of_lt h), List.take_succ, g, List.filterMap_cons_some g]
    rfl
theorem pick_ent {L : List (Addr × List κ)} {es : Array (Int × Value)} (he : es.toList = ent kd L) : ∀ l : List Nat, (∀ i ∈ l, i < L.length) →
    l.filterMap (fun i => es[i]?) = ent kd (l.filterMap fun i => L[i]?) ∧ ((l.filterMap fun i => L[i]?).map fun e => hsh kd e.2) = l.map fun i => (es.map (·.1)).getD i 0
  | [], _ => ⟨rfl, rfl⟩
  | i :: l, h => by
    obtain ⟨p1, p2⟩ := pick_ent he l fun j hj => h j (List.mem_cons_of_mem _ hj)
    obtain ⟨e, g⟩ : ∃ e, L[i]? = some e := ⟨_, List.getElem?_eq_getElem (h i (List.mem_cons_self ..))⟩
    have ge := ent_get he g
    have gm : (es.map (·.1)).getD i 0 = hsh kd e.2 := by
      have : (es.map (·.1))[i]? = some (hsh kd e.2) := by rw [Array.getElem?_map, ge]; rfl
      simp [Array.getD_eq_getD_getElem?, this]
    rw [List.filterMap_cons_some ge, List.filterMap_cons_some g, p1, List.map_cons, List.map_cons, p2, gm]
    exact ⟨rfl, rfl⟩
variable {a : Addr} {L : List (Addr × List κ)} {es : Array (Int × Value)} {ep : Nat} {t : SetTable}
/-- a larger table -/
theorem lay_again {o : Obj} (get : s.heap.get? a = some o) (ex : o.ExactSet) (dat : o.data = .set es ep t) (lst : es.toList = ent kd L) (tab : TabOk t (L.map fun e => hsh kd e.2)) (room : L.length ≤ t.mask) (inj : (L.map Prod.snd).Nodup)
    (mem : ∀ e ∈ L, Tp kd s.heap e.2 e.1) (cal : w.params.followText "set-order" = true ∨ t.led = true) (few : L.length < 64) {wanted M : Nat} (hM : SetTable.sizeAbove wanted = M + 1) (ok : MaskOk M) (cap : L.length * 5 < M * 3) {Q : Unit → Shared → Prop}
    (then_ : ∀ h' L' es' ep' t', Heap.SameBut a s.heap h' → St kd h' a L' es' ep' t' → L'.Perm L → Q () { s with heap := h' }) : wpAny (model P w) A (setRelay a wanted) Q E s := by
  have size := ent_size lst
  have sz := tab.sz
  rw [List.length_map] at sz
  have fit : t.fits es.size = true := by
    unfold SetTable.fits SetTable.fill
    rw [tab.dm, Bool.and_eq_true, beq_iff_eq, decide_eq_true_eq]
    exact ⟨by omega, by show t.place.size + 0 ≤ t.mask; omega⟩
  obtain ⟨t', order, laid, perm, T, m', l', p', _⟩ := relaid_ok t (hs := es.map (·.1)) (wanted := wanted) (M := M) (by omega) ok (by rw [Array.size_map]; omega)
  rw [Array.size_map, size] at perm
  have inb : ∀ i ∈ order.toList, i < L.length := fun i hi => List.mem_range.mp (perm.mem_iff.mp hi)
  obtain ⟨e1, e2⟩ := pick_ent lst order.toList inb
  have pm : (order.toList.filterMap fun i => L[i]?).Perm L := by
    have := perm.filterMap (fun i => L[i]?)
    rwa [pick_all L.length (Nat.le_refl _), List.take_length] at this
  have new : (order.filterMap (es[·]?)).toList = ent kd (order.toList.filterMap fun i => L[i]?) := by
    rw [← e1]
    first | exact Array.toList_filterMap | simp
  generalize order.toList.filterMap (fun i => L[i]?) = L' at e2 pm new
  rw [← e2] at T
  have size' := ent_size new
  rw [pm.length_eq] at size'
  have bound : M ≤ 127 := by rcases ok with q | q | q <;> omega
  rw [setRelay_eq]
  refine wpAny_bind (wpAny_setState_of get dat fit ?_)
  dsimp only
  refine wp_if_neg (by rw [sizeLine_eq]; omega) ?_
  try refine wpAny_bind (wpAny_pure ?_)
  rw [laid]
  dsimp only
  refine wpAny_bind (wp_if_neg (by rw [size', size]; simp) ?_)
  try refine wpAny_bind (wpAny_pure ?_)
  refine wpAny_pure ?_
  dsimp only
  refine wpAny_storeSet_of get dat ?_ (by rw [size', sizeLine_eq]; omega)
  have sb : Heap.SameBut a s.heap (s.heap.update a (Obj.putSet (order.filterMap (es[·]?)) t')) := Heap.SameBut.update ..
  exact then_ _ L' _ (ep + 1) t' sb ⟨⟨_, store_at get dat, ⟨ex.1, ex.2.1, ex.2.2⟩, rfl⟩, new, T, (pm.map Prod.snd).nodup_iff.mpr inj, fun e he => (mem e (pm.mem_iff.mp he)).but get dat sb, by rw [l']; exact cal, by rw [pm.length_eq, m']; exact ⟨cap, few⟩⟩ pm
/-- one more -/
theorem add_one (cm : Calm kd) (S : St kd s.heap a L es ep t) {b : Addr} {k : List κ} (hb : Tp kd s.heap k b) (hu : A.units < cLine) (few : L.length + 1 < 64) {Q : Bool → Shared → Prop}
    (then_ : ∀ r h' L' es' ep' t', Heap.SameBut a s.heap h' → St kd h' a L' es' ep' t' → (k ∈ L.map Prod.snd → L' = L) → (k ∉ L.map Prod.snd → L'.Perm ((b, k) :: L)) → Q r { s with heap := h' }) : wpAny (model P w) A (setAddHashed a (.ref b) (hsh kd k)) Q E s := by
  obtain ⟨o, get, ex, dat⟩ := S.obj
  unfold setAddHashed
  refine wpAny_holding ?_
  rw [show 100000 = Nat.succ 99999 from rfl, setAddHashedIn_succ]
  refine wpAny_bind (wpAny_setState_of get dat S.fits ?_)
  dsimp only
  refine wp_if_neg (by simp [byScan, Value.scannable]) ?_
  try refine wpAny_bind (wpAny_pure ?_)
  refine wpAny_bind (seek_at cm S hb hu (fun here => ?_) fun K gone free full => ?_)
  · dsimp only
    exact wpAny_pure (then_ false s.heap L es ep t (Heap.SameBut.refl a s.heap) S (fun _ => rfl) fun q => absurd here q)
  dsimp only
  refine wpAny_bind (wpAny_setState_of get dat S.fits ?_)
  dsimp only
  obtain ⟨at_, le, T, mk, ld, pl, _, _, fl⟩ := S.tab.put free full
  rw [List.length_map] at le fl
  generalize hw : way t.mask (hsh kd k) K = slot at at_ le T mk ld pl fl
  generalize hp : t.put slot = put at at_ T mk ld pl fl
  obtain ⟨t1, p⟩ := put
  dsimp only at at_ T mk ld pl fl ⊢
  subst at_
  have rest : ∀ t2 : SetTable, TabOk t2 ((L.map fun e => hsh kd e.2).take (SetTable.below t.place slot) ++ hsh kd k :: (L.map fun e => hsh kd e.2).drop (SetTable.below t.place slot)) → t2.mask = t.mask → t2.led = t.led → t2.fill = L.length + 1 →
      wpAny (model P w) A (storeSet a (SetTable.insertAt es (SetTable.below t.place slot) (hsh kd k, Value.ref b)) t2 >>= fun _ => if (!false && t2.tooFull) = true then (setRelay a (SetTable.grown (es.size + 1)) >>= fun _ => pure true) else pure true) Q E s := by
    clear T mk ld pl fl hp
    intro t2 T mk ld fl
    generalize hq : SetTable.below t.place slot = q at le T ⊢
    have new : (SetTable.insertAt es q (hsh kd k, Value.ref b)).toList = ent kd (L.take q ++ (b, k) :: L.drop q) := by
      rw [SetTable.toList_insertAt, S.lst, ent, ent, List.map_append, List.map_cons, List.map_take, List.map_drop]
    have pm : (L.take q ++ (b, k) :: L.drop q).Perm ((b, k) :: L) := put_perm L q (b, k)
    have T' : TabOk t2 ((L.take q ++ (b, k) :: L.drop q).map fun e => hsh kd e.2) := by
      rw [List.map_append, List.map_cons, List.map_take, List.map_drop]
      exact T
    generalize L.take q ++ (b, k) :: L.drop q = L1 at new pm T'
    generalize SetTable.insertAt es q (hsh kd k, Value.ref b) = es1 at new ⊢
    have len1 : L1.length = L.length + 1 := pm.length_eq
    have size1 := ent_size new
    have inj1 : (L1.map Prod.snd).Nodup := (pm.map Prod.snd).nodup_iff.mpr (by rw [List.map_cons]; exact List.nodup_cons.mpr ⟨gone, S.inj⟩)
    refine wpAny_bind (wpAny_storeSet_of get dat ?_ (by rw [size1, sizeLine_eq]; omega))
    have sb : Heap.SameBut a s.heap (s.heap.update a (Obj.putSet es1 t2)) := Heap.SameBut.update ..
    have get1 := store_at (es' := es1) (t' := t2) get dat
    generalize s.heap.update a (Obj.putSet es1 t2) = h1 at sb get1 ⊢
    have mem1 : ∀ e ∈ L1, Tp kd h1 e.2 e.1 := fun e he => by
      rcases List.mem_cons.mp (pm.mem_iff.mp he) with q | q
      · subst q; exact hb.but get dat sb
      · exact (S.mem e q).but get dat sb
    have cal1 : w.params.followText "set-order" = true ∨ t2.led = true := by rw [ld]; exact S.cal
    have full1 : t2.tooFull = decide ((L.length + 1) * 5 ≥ t2.mask * 3) := by
      unfold SetTable.tooFull
      rw [fl]
    have cap := S.cap.1
    by_cases tf : t2.tooFull = true
    · have much : (L.length + 1) * 5 ≥ t2.mask * 3 := by rw [full1] at tf; exact of_decide_eq_true tf
      rw [mk] at much
      have two : (t.mask = 7 ∧ L.length = 4) ∨ (t.mask = 31 ∧ L.length = 18) := by
        rcases S.tab.mok with m | m | m
        · exact .inl ⟨m, by omega⟩
        · exact .inr ⟨m, by omega⟩
        · omega
      first
        | (refine wpAny_bind ?_; refine wp_if_pos (by simp [tf]) ?_)
        | (refine wp_if_pos (by simp [tf]) ?_; refine wpAny_bind ?_)
      rw [ent_size S.lst]
      have larger : ∀ M, SetTable.sizeAbove (SetTable.grown (L.length + 1)) = M + 1 → MaskOk M → (L.length + 1) * 5 < M * 3 → wpAny (model P w) A (setRelay a (SetTable.grown (L.length + 1))) (fun _ z => wpAny (model P w) A (pure true) Q E z) E { s with heap := h1 } := fun M e1 e2 e3 =>
        lay_again (s := { s with heap := h1 }) get1 ⟨ex.1, ex.2.1, ex.2.2⟩ rfl new T' (by rw [len1, mk]; omega) inj1 mem1 cal1 (by omega) e1 e2 (by rw [len1]; exact e3) fun h2 L2 es2 ep2 t2 sb2 S2 pm2 => wpAny_pure (then_ true h2 L2 es2 ep2 t2 (sb.trans sb2) S2 (fun q => absurd q gone) fun _ => pm2.trans pm)
      rcases two with ⟨_, n⟩ | ⟨_, n⟩
      · exact larger 31 (by rw [n]; exact size_20) (.inr (.inl rfl)) (by omega)
      · exact larger 127 (by rw [n]; exact size_76) (.inr (.inr rfl)) (by omega)
    · have less : ¬ (L.length + 1) * 5 ≥ t2.mask * 3 := fun z => tf (by rw [full1]; exact decide_eq_true z)
      first
        | refine wp_if_neg (by simp [tf]) ?_
        | (refine wpAny_bind ?_; refine wp_if_neg (by simp [tf]) ?_; refine wpAny_pure ?_)
      exact wpAny_pure (then_ true h1 L1 es1 (ep + 1) t2 sb ⟨⟨_, get1, ⟨ex.1, ex.2.1, ex.2.2⟩, rfl⟩, new, T', inj1, mem1, cal1, by omega⟩ (fun q => absurd q gone) fun _ => pm)
  by_cases pp : t1.plain = true
  · refine wp_if_pos pp (wpAny_bind (bv_tup cm hb fun r => ?_))
    cases r with
    | true => exact rest t1 T mk ld fl
    | false => exact rest { t1 with plain := false } ⟨T.ris, T.dm, T.sz, T.mok, T.bd, T.reach⟩ mk ld fl
  · exact wp_if_neg pp (wpAny_bind (wpAny_pure (rest t1 T mk ld fl)))
end
/-! ### all items of a list -/
/-- the set holds just what the first n rows tell -/
structure Has (rows : List (Addr × List κ)) (n : Nat) (L : List (Addr × List κ)) : Prop where
  only : ∀ e ∈ L, e ∈ rows.take n
  each : ∀ e ∈ rows.take n, e.2 ∈ L.map Prod.snd
  most : L.length ≤ n
theorem Has.next {rows L L' : List (Addr × List κ)} {n : Nat} {e : Addr × List κ} (g : Has rows n L) (h : rows[n]? = some e) (c1 : e.2 ∈ L.map Prod.snd → L' = L) (c2 : e.2 ∉ L.map Prod.snd → L'.Perm (e :: L)) : Has rows (n + 1) L' := by
  have step : rows.take (n + 1) = rows.take n ++ [e] := take_next h
  by_cases q : e.2 ∈ L.map Prod.snd
  · rw [c1 q]
    refine ⟨fun x hx => by rw [step]; exact List.mem_append_left _ (g.only x hx), fun x hx => ?_, Nat.le_succ_of_le g.most⟩
    rw [step, List.mem_append, List.mem_singleton] at hx
    rcases hx with hx | hx
    · exact g.each x hx
    · subst hx; exact q
  · have pm := c2 q
    refine ⟨fun x hx => ?_, fun x hx => ?_, by rw [pm.length_eq]; exact Nat.succ_le_succ g.most⟩
    · rw [step, List.mem_append, List.mem_singleton]
      rcases List.mem_cons.mp (pm.mem_iff.mp hx) with hx | hx
      · exact .inr hx
      · exact .inl (g.only x hx)
    · rw [step, List.mem_append, List.mem_singleton] at hx
      rw [(pm.map Prod.snd).mem_iff, List.map_cons, List.mem_cons]
      rcases hx with hx | hx
      · exact .inr (g.each x hx)
      · subst hx; exact .inl rfl
section
variable {kd : KeyKind P w κ} {A : Around} {E : Value → Shared → Prop} {s : Shared}
theorem Tp.stay {h h' : Heap} {k : List κ} {b : Addr} (q : Tp kd h k b) (keep : ∀ c o, h.get? c = some o → h'.get? c = some o) : Tp kd h' k b := by
  obtain ⟨o, its, n, g, r⟩ := q
  exact ⟨o, its, n, keep _ _ g, r⟩
theorem St.stay {h h' : Heap} {a : Addr} {L : List (Addr × List κ)} {es : Array (Int × Value)} {ep : Nat} {t : SetTable} (S : St kd h a L es ep t) (own : ∀ o, h.get? a = some o → h'.get? a = some o) (mem : ∀ e ∈ L, Tp kd h' e.2 e.1) : St kd h' a L es ep t := by
  obtain ⟨o, g, r⟩ := S.obj
  exact ⟨⟨o, own o g, r⟩, S.lst, S.tab, S.inj, mem, S.cal, S.cap⟩
abbrev newTab (w : World) : SetTable := .fresh 0 0 (!w.params.followText "set-order")
abbrev newSet (w : World) : Obj := { cls := .type "set", dict := none, data := .set #[] 0 (newTab w) }
theorem St.empty {h : Heap} {a : Addr} (g : h.get? a = some (newSet w)) : St kd h a [] #[] 0 (newTab w) :=
  ⟨⟨_, g, ⟨rfl, rfl, rfl⟩, rfl⟩, rfl, ⟨List.Pairwise.nil, rfl, rfl, .inl rfl, fun x hx => (nomatch hx), fun i h j hi => (by simp at hi)⟩, List.nodup_nil, fun e he => (nomatch he), by
    cases q : w.params.followText "set-order"
    · exact .inr (by show (!w.params.followText "set-order") = true; rw [q]; rfl)
    · exact .inl rfl, ⟨by show 0 * 5 < 7 * 3; decide, by show 0 < 64; decide⟩⟩
/-- the loop behind set(xs) -/
theorem loop_ok (cm : Calm kd) {It : Addr} {fp wr : List Addr} {G : Array GenState → Array GenState → Prop} {n : Nat} {Pv : Nat → Value → Prop} {Sv : Nat → Shared → Prop} {R : Result → Shared → Prop} (W : WalksS P w A.in1 It fp wr G n Pv Sv) (a : Addr) (afp : a ∉ fp) (rows : List (Addr × List κ)) (few : rows.length < 64)
    (hn : rows.length = n) (row : ∀ i v, Pv i v → ∃ e, rows[i]? = some e ∧ v = .ref e.1) (h0 : Heap) (tups : ∀ e ∈ rows, Tp kd h0 e.2 e.1) (a0 : h0.get? a = none) (wr0 : ∀ b ∈ wr, h0.get? b = none) (hu : A.in1.units < cLine) (left : Nat) :
    ∀ (i : Nat) (s : Shared), i + left = n → Sv i s → (∀ b o, h0.get? b = some o → s.heap.get? b = some o) → (∃ L es ep t, St kd s.heap a L es ep t ∧ Has rows i L) →
      (∀ z L es ep t, Moved (a :: wr) G s z → St kd z.heap a L es ep t → Has rows n L → (∀ b o, h0.get? b = some o → z.heap.get? b = some o) → R (.ok (.ret .none)) z) → codeAny (model P w) A (.builtin "set.update.loop" ⟨[.ref a, .ref It], []⟩) R s := by
  have awr : a ∉ wr := fun q => afp (W.sub _ q)
  have more : ∀ b ∈ wr, b ∈ a :: wr := fun b hb => List.mem_cons_of_mem _ hb
  have old : ∀ {s z : Shared}, Moved wr G s z → (∀ b o, h0.get? b = some o → s.heap.get? b = some o) → ∀ b o, h0.get? b = some o → z.heap.get? b = some o := fun mv k b o e => by
    refine mv.heap b o (fun hb => ?_) (k b o e)
    rw [wr0 b hb] at e
    cases e
  induction left with
  | zero =>
    intro i s hi sv keep ⟨L, es, ep, t, S, g⟩ done
    rw [Nat.add_zero] at hi
    subst hi
    refine codeAny_builtin F.entry_set_update_loop ?_
    rw [Around.under_plainId F.plain_set_update_loop _]
    show wpAny _ A.in1 (bind (pyNext (.ref It)) _) _ _ s
    refine wpAny_bind (W.done s _ _ sv fun z mv => ?_)
    have keep' := old mv keep
    have sub : ∀ e ∈ L, e ∈ rows := fun e he => List.mem_of_mem_take (g.only e he)
    show wpAny _ A.in1 (ret .none) _ _ z
    exact wpAny_pure (done z L es ep t (mv.mono more) (S.stay (fun o q => mv.heap a o awr q) fun e he => (tups e (sub e he)).stay keep') g keep')
  | succ left ih =>
    intro i s hi sv keep ⟨L, es, ep, t, S, g⟩ done
    refine codeAny_builtin F.entry_set_update_loop ?_
    rw [Around.under_plainId F.plain_set_update_loop _]
    show wpAny _ A.in1 (bind (pyNext (.ref It)) _) _ _ s
    refine wpAny_bind (W.item i s _ _ (by omega) sv fun v z pv sv' mv => ?_)
    obtain ⟨e, he, rfl⟩ := row i v pv
    have keep' := old mv keep
    have sub : ∀ e ∈ L, e ∈ rows := fun e he => List.mem_of_mem_take (g.only e he)
    have S' : St kd z.heap a L es ep t := S.stay (fun o q => mv.heap a o awr q) fun x hx => (tups x (sub x hx)).stay keep'
    have te : Tp kd z.heap e.2 e.1 := (tups e (List.mem_of_getElem? he)).stay keep'
    show wpAny _ A.in1 (bind (holding [.ref e.1] (setAdd a (.ref e.1))) _) _ _ z
    refine wpAny_bind (wpAny_holding ?_)
    unfold setAdd
    refine wpAny_holding (wpAny_bind (wpAny_pyHash_tuple hu te ?_))
    refine add_one cm (s := { z with toks := z.toks + (e.2.length + 1) }) S' te hu (by have := g.most; omega) fun r h' L' es' ep' t' sb S2 c1 c2 => ?_
    have g' : Has rows (i + 1) L' := g.next he c1 c2
    have keep2 : ∀ b o, h0.get? b = some o → h'.get? b = some o := fun b o q => by
      rw [sb.2 b (fun y => by rw [y, a0] at q; cases q)]
      exact keep' b o q
    refine wpAny_pure ⟨plainId_quiet F.plain_set_update_loop _, ih (i + 1) _ (by omega) (W.frame _ z _ _ sv' (Nat.le_add_right _ _) fun b hb o q => ?_) keep2 ⟨L', es', ep', t', S2, g'⟩ fun z2 L2 es2 ep2 t2 mv2 S3 g3 k3 => ?_⟩
    · rw [sb.2 b (fun y => afp (y ▸ hb))]
      exact q
    · refine done z2 L2 es2 ep2 t2 (Moved.trans W.gtrans ((mv.mono more).then_heap (Nat.le_add_right _ _) fun b o hb q => ?_) mv2) S3 g3 k3
      rw [sb.2 b (fun y => hb (by rw [y]; exact List.mem_cons_self))]
      exact q
end
end SG
end VL

/-! DLq: set(xs), xs a list of tuples of plain things. -/
namespace VL
namespace SG
open PySem PySem.Spec PyProof.Rows L2
variable {P : Program} {w : World} {κ : Type} [DecidableEq κ]
section
variable {kd : KeyKind P w κ} {A : Around} {E : Value → Shared → Prop} {s : Shared}
/-- set(xs), xs a list of such tuples -/
theorem set_of (cm : Calm kd) {l : Addr} {items : Array Value} (rows : List (Addr × List κ)) {Q : Value → Shared → Prop} (calm : A.handled = none) (hl : s.heap.IsList l items) (hi : items.toList = rows.map fun e => Value.ref e.1) (tups : ∀ e ∈ rows, Tp kd s.heap e.2 e.1) (few : rows.length < 64) (hu : A.units + 3 < cLine)
    (then_ : ∀ (h' : Heap) (tk : Nat) L es ep t, St kd h' s.heap.objs.size L es ep t → Has rows rows.length L → (∀ b o, s.heap.get? b = some o → h'.get? b = some o) → Q (.ref s.heap.objs.size) { s with heap := h', toks := tk }) : wpAny (model P w) A (call (.type "set") [.ref l]) Q E s := by
  have size : rows.length = items.size := by rw [← Array.length_toList, hi, List.length_map]
  obtain ⟨c0, rest0, mro⟩ := F.called_set.mro
  have made := F.called_set.made
  have sub := F.called_set.sub
  refine wpAny_call (codeAny_of_tree ?_)
  show wpAny _ _ (callAny (.type "set") _) _ _ _
  refine wpAny_pure ⟨Code.quiet_builtin _ (by decide +kernel), codeAny_builtin F.entry_type_call ?_⟩
  rw [Around.under_plain (weight_type_call_type "set" [.ref l] []) rfl]
  have nt := F.called_set.notType
  have cc := F.called_set.canCreate
  have tc := F.typeCall_set_1 (.ref l)
  repeat any_goals first | assumption | wp_step
  refine codeAny_mono (code_set_led1 (.ref l) (E := E) (Q₁ := fun obj z => obj = .ref s.heap.objs.size ∧ z = { s with heap := s.heap.push (newSet w) }) ⟨rfl, rfl⟩) fun r z hz => ?_
  match r, hz with
  | .error e, hz => exact hz
  | .ok .next, hz => exact hz.elim
  | .ok .brk, hz => exact hz.elim
  | .ok .cont, hz => exact hz.elim
  | .ok (.ret obj), ⟨eo, ez⟩ =>
    subst eo ez
    have got : (s.heap.push (newSet w)).get? s.heap.objs.size = some (newSet w) := Heap.get?_push_size _ rfl
    have ty : Shared.TypeIs { s with heap := s.heap.push (newSet w) } (.ref s.heap.objs.size) "set" := ⟨_, got, rfl⟩
    have il := F.called_set.init.lookup
    have ib := F.called_set.init.bind (.ref s.heap.objs.size)
    repeat any_goals first | assumption | wp_step
    refine codeAny_mono (codeAny_call_builtin (R := wants (fun r z => r = .none ∧ ∃ h' tk L es ep t, z = { s with heap := h', toks := tk } ∧ St kd h' s.heap.objs.size L es ep t ∧ Has rows rows.length L ∧ (∀ b o, s.heap.get? b = some o → h'.get? b = some o)) E) F.called_set.init.plain F.entry_set_init (check_set_init_1 ty ?_)) fun r2 z2 h2 => ?_
    · obtain ⟨ol, gl, cl, nl, dl⟩ := hl
      obtain ⟨ocls, odict, odata, oslots⟩ := ol
      simp only at cl dl
      subst cl dl
      have gl' : (s.heap.push (newSet w)).get? l = some { cls := .type "list", dict := odict, data := .seq items nl, slots := oslots } := Heap.get?_push_of_some _ gl
      have sl1 := F.sub_list_set
      have sl2 := F.sub_list_frozenset
      have ne1 : (Value.type "list" == Value.type "dict") = false := by decide
      have is1 : (s.heap.push (newSet w)).IsList l items := ⟨_, gl', rfl, nl, rfl⟩
      have lt : l < s.heap.objs.size := Heap.lt_size gl
      have calm3 : A.in1.in1.in1.handled = none := by simp [calm]
      have sz : (s.heap.push (newSet w)).objs.size = s.heap.objs.size + 1 := Heap.size_push ..
      have none_at : ∀ b, s.heap.objs.size ≤ b → s.heap.get? b = none := fun b hb => by
        cases q : s.heap.get? b with
        | none => rfl
        | some o => exact absurd (Heap.lt_size q) (Nat.not_lt.mpr hb)
      unfold Builtin.«set.__init__» noKeywords Builtin.Frozenset.updateFrom
      generalize itr : pyIter = PI
      wp_walk
      subst itr
      refine wpAny_pyIter_list is1 (wpAny_bind (wpAny_runValue ?_))
      refine loop_ok cm ((Walks.list calm3 _ l (by rw [sz]; exact Nat.ne_of_lt (Nat.lt_succ_of_lt lt)) items).toS) s.heap.objs.size (by
          rw [sz]
          simp only [List.mem_cons, List.not_mem_nil, or_false, not_or]
          exact ⟨Nat.ne_of_lt (Nat.lt_succ_self _), Nat.ne_of_gt lt⟩) rows few size (fun i v hv => ?_) s.heap tups (none_at _ (Nat.le_refl _)) (fun b hb => none_at b ?_) hu (items.size - 0) 0 _ (by omega) ⟨⟨_, Heap.get?_push_size _ rfl, rfl, rfl⟩, is1.push _⟩ (fun b o q => Heap.get?_push_of_some _ (Heap.get?_push_of_some _ q)) ?_ ?_
      · have q : items.toList[i]? = some v := by rw [Array.getElem?_toList]; exact hv
        rw [hi, List.getElem?_map] at q
        cases hq : rows[i]? with
        | none => rw [hq] at q; cases q
        | some e => rw [hq] at q; exact ⟨e, rfl, (Option.some.inj q).symm⟩
      · rw [List.mem_singleton.mp hb, sz]
        exact Nat.le_succ _
      · exact ⟨[], #[], 0, _, St.empty (Heap.get?_push_of_some _ got), ⟨fun e he => (nomatch he), fun e he => (by simp at he), Nat.le_refl _⟩⟩
      · intro z L es ep t mv S g keep
        obtain ⟨h', g2, d2, tk, o2⟩ := z
        have e1 : g2 = s.gens := mv.gens
        have e2 : d2 = s.drawn := mv.drawn
        have e3 : o2 = s.os := mv.os
        subst e1 e2 e3
        rw [← size] at g
        show wpAny _ _ _ _ _ _
        refine wpAny_pure ?_
        show wpAny _ _ (ret .none) _ _ _
        exact wpAny_pure ⟨rfl, h', tk, L, es, ep, t, rfl, S, g, keep⟩
    · match r2, h2 with
      | .error e, h2 => exact h2
      | .ok .next, h2 => exact h2.elim
      | .ok .brk, h2 => exact h2.elim
      | .ok .cont, h2 => exact h2.elim
      | .ok (.ret u), ⟨eu, h', tk, L, es, ep, t, ez, S, g, keep⟩ =>
        subst eu ez
        repeat any_goals first | assumption | wp_step
        exact then_ _ _ _ _ _ _ S g keep
end
end SG
end VL

/-! VLe: subscripts, in, calls of builtins, as functions on trees. -/
namespace VL
open PySem PySem.Spec PyProof.Rows L2

/-! ### keys of dicts -/
def keyK : D → Option Key
  | .int i => some (.inl i)
  | .str s => some (.inr s)
  | _ => none
def keyKs : List D → Option (List Key)
  | [] => some []
  | d :: ds => match keyK d, keyKs ds with
    | some k, some ks => some (k :: ks)
    | _, _ => none
/-- a tuple as a key: not the text's own nought -/
def keyT : D → Option (List Key)
  | .tup ds => match keyKs ds with
    | some ks => if ks = [.inl 0, .inl 1] then none else some ks
    | none => none
  | _ => none
def kD : Key → D
  | .inl i => .int i
  | .inr s => .str s
def kdD : Kd → D
  | .k k => kD k
  | .t ks => .tup (ks.map kD)
section
variable {K : PySem.W.Frag} {G B H : Hp}
theorem key_dt {v : V} {d : D} {k : Key} (h : Dt K G B H v d) (e : keyK d = some k) : v = kV k := by
  cases d with
  | int i => cases e; exact dt_int h
  | str i => cases e; exact dt_str h
  | _ => cases e
theorem keys_dts : ∀ {vs : List V} {ds : List D} {ks : List Key}, Dts K G B H vs ds → keyKs ds = some ks → vs = ks.map kV
  | [], [], ks, _, e => by cases e; rfl
  | [], _ :: _, _, h, _ => by have := h.length; simp at this
  | _ :: _, [], _, h, _ => by have := h.length; simp at this
  | v :: vs, d :: ds, ks, h, e => by
    obtain ⟨_, h, t⟩ := h.uncons
    unfold keyKs at e
    cases e1 : keyK d with
    | none => rw [e1] at e; cases e
    | some k =>
      cases e2 : keyKs ds with
      | none => rw [e1, e2] at e; cases e
      | some ks' =>
        rw [e1, e2] at e
        cases e
        rw [key_dt h e1, keys_dts t e2] <;> rfl
theorem keyT_dt {v : V} {d : D} {ks : List Key} (gh : Same G H) (h : Dt K G B H v d) (e : keyT d = some ks) : ∃ b, v = .ref b ∧ H b = some (.tup (ks.map kV)) ∧ G b = some (.tup (ks.map kV)) := by
  cases d with
  | tup ds =>
    obtain ⟨p, vs, rfl, _, ht, hs⟩ := dt_tup gh h
    simp only [keyT] at e
    cases e1 : keyKs ds with
    | none => rw [e1] at e; cases e
    | some ks' =>
      rw [e1] at e
      have hv := keys_dts hs e1
      by_cases hc : ks' = [.inl 0, .inl 1]
      · rw [hc] at e; simp at e
      · simp only [hc, if_false, Option.some.injEq] at e
        subst e
        rcases ht with ht | ⟨ht, _⟩
        · rw [hv] at ht
          exact ⟨p, rfl, gh p _ ht, ht⟩
        · exfalso
          apply hc
          rw [hv] at ht
          match ks', ht with
          | [.inl a, .inl b], ht => simpa [kV] using ht
          | [.inl a, .inr b], ht => simp [kV] at ht
          | [.inr a, _], ht => simp [kV] at ht
          | [], ht => simp at ht
          | [_], ht => simp at ht
          | _ :: _ :: _ :: _, ht => simp at ht
  | _ => cases e
theorem kD_dt (k : Key) : (kD k).old ∧ Dt K G B H (kV k) (kD k) := by
  cases k with
  | inl i => exact ⟨by simp [kD, D.root], _, .int i⟩
  | inr i => exact ⟨by simp [kD, D.root], _, .str i⟩
theorem Dtm.valK {k : Key} : ∀ {vs : List (Key × V)} {ds : List (Kd × D)}, Dtm K G B H (vs.map kK) ds → (getK ds (.k k) = none → valV vs k = none) ∧ ∀ d, getK ds (.k k) = some d → ∃ v, valV vs k = some v ∧ d.old ∧ Dt K G B H v d
  | [], [], _ => ⟨fun _ => rfl, fun d e => nomatch e⟩
  | [], _ :: _, h => by have := h.length; simp at this
  | _ :: _, [], h => by have := h.length; simp at this
  | (k0, v) :: vs, (k', d) :: ds, h => by
    obtain ⟨rfl, n, h1, h2⟩ := Dtm.uncons (k := .k k0) (v := v) (vs := vs.map kK) h
    obtain ⟨i1, i2⟩ := Dtm.valK (k := k) h2
    by_cases e : k0 = k
    · subst e
      rw [getK, if_pos rfl, valV_pos rfl]
      exact ⟨fun z => (nomatch z), fun d' z => by cases z; exact ⟨_, rfl, n, h1⟩⟩
    · rw [getK, if_neg (by simpa using e), valV_neg e]
      exact ⟨i1, i2⟩
theorem Dtm.valT {k : List Key} : ∀ {vs : List (List Key × V)} {ds : List (Kd × D)}, Dtm K G B H (vs.map kT) ds → (getK ds (.t k) = none → valV vs k = none) ∧ ∀ d, getK ds (.t k) = some d → ∃ v, valV vs k = some v ∧ d.old ∧ Dt K G B H v d
  | [], [], _ => ⟨fun _ => rfl, fun d e => nomatch e⟩
  | [], _ :: _, h => by have := h.length; simp at this
  | _ :: _, [], h => by have := h.length; simp at this
  | (k0, v) :: vs, (k', d) :: ds, h => by
    obtain ⟨rfl, n, h1, h2⟩ := Dtm.uncons (k := .t k0) (v := v) (vs := vs.map kT) h
    obtain ⟨i1, i2⟩ := Dtm.valT (k := k) h2
    by_cases e : k0 = k
    · subst e
      rw [getK, if_pos rfl, valV_pos rfl]
      exact ⟨fun z => (nomatch z), fun d' z => by cases z; exact ⟨_, rfl, n, h1⟩⟩
    · rw [getK, if_neg (by simpa using e), valV_neg e]
      exact ⟨i1, i2⟩
/-- what a dict holds at a key; none: it is no key of its kind -/
def dgetD (d k : D) : Option (Option D) := match d with
  | .dic _ kvs => (keyK k).map fun x => getK kvs (.k x)
  | .dit _ kvs => (keyT k).map fun x => getK kvs (.t x)
  | _ => none
theorem dget_dt {x y : V} {d k : D} {o : Option D} (gh : Same G H) (bh : Same B H) (h : Dt K G B H x d) (hk : Dt K G B H y k) (e : dgetD d k = some o) : ∃ a r, x = .ref a ∧ DGet H a y r ∧ (o = none → r = none) ∧ ∀ e, o = some e → ∃ v, r = some v ∧ e.old ∧ Dt K G B H v e := by
  cases d with
  | dic f kvs =>
    obtain ⟨p, vs, rfl, hp, hm⟩ := dt_dic gh bh h
    simp only [dgetD] at e
    cases e1 : keyK k with
    | none => rw [e1] at e; cases e
    | some q =>
      rw [e1] at e
      cases e
      have := key_dt hk e1
      subst this
      obtain ⟨i1, i2⟩ := hm.valK (k := q)
      exact ⟨p, _, rfl, .inl ⟨vs, q, hp, rfl, rfl⟩, i1, i2⟩
  | dit f kvs =>
    obtain ⟨p, vs, rfl, hp, hm⟩ := dt_dit gh bh h
    simp only [dgetD] at e
    cases e1 : keyT k with
    | none => rw [e1] at e; cases e
    | some q =>
      rw [e1] at e
      cases e
      obtain ⟨b, rfl, hb, _⟩ := keyT_dt gh hk e1
      obtain ⟨i1, i2⟩ := hm.valT (k := q)
      exact ⟨p, _, rfl, .inr ⟨vs, q, b, hp, rfl, hb, rfl⟩, i1, i2⟩
  | _ => cases e
end

/-! ### x[i] -/
def ofO {α : Type} : Option α → Out Exn α
  | some d => .ok d
  | none => .no
def ixV (x y : D) : Out Exn D := match x, y with
  | .str z, .int i => if z.length ≤ sizeLine then ofO ((atI z.cps.toList i).map fun c => .str ⟨#[c]⟩) else .no
  | .tup ds, .int i => ofO (atI ds i)
  | .tuk ds, .int i => ofO (atI ds i)
  | .lst _ ds, .int i => ofO (atI ds i)
  | d, k => ofO ((dgetD d k).bind id)
section
variable {K : PySem.W.Frag} {X : Cx}
def rIxD : R2 := fun x y H Q => ∃ a v, x = .ref a ∧ DGet H a y (some v) ∧ Q v H
theorem ix_dict (hu : X.A.units + 1 < cLine) : IxR X rIxD := by
  intro value slice pins s σ H x y v u Q I rx ry h hs
  obtain ⟨a, w, rfl, g, q⟩ := h
  obtain rfl : v = Value.ref a := rx
  have hT := dict_typeIs I g
  unfold subscriptTail
  refine wpAny_bind ?_
  rw [getitemInPython_of_ne hT.not_modules]
  refine wpAny_bind (wpAny_specialOf hT PySem.F.slot_dict_getitem.lookup ?_)
  have h2 : wpAny (model X.prog X.w) X.A (getItem (.ref a) u) (EP X pins σ Q) X.xe s := d_getItem hu I g ry fun w' s3 I3 rw' => ⟨w, H, I3, rw', q⟩
  have fin : wpAny (model X.prog X.w) X.A (subscripted slice false (.ref a) u) (fun r s₃ => wpAny (model X.prog X.w) X.A (letTemporaryGo value (.ref a) r >>= fun _ => pure r) (EP X pins σ Q) X.xe s₃) X.xe s := by
    rw [hs]
    exact wpAny_operating (wpAny_mono h2 (fun r s₃ h₃ => wpAny_bind (wpAny_letTemporaryGo (wpAny_pure h₃))) fun _ _ x => x)
  first
    | exact wpAny_pure (wpAny_bind fin)
    | exact wpAny_bind (wpAny_pure (wpAny_bind fin))
    | exact wpAny_bind fin
abbrev rIxU (K : PySem.W.Frag) : R2 := fun x y H Q => rIx K x y H Q ∨ rIxD x y H Q
theorem ix_U (hu : X.A.units + 1 < cLine) : IxR X (rIxU X.K) := ix_seq.or (ix_dict hu)
theorem atI_dts {G B H : Hp} {vs : List V} {ds : List D} {i : Int} {d : D} (hs : Dts K G B H vs ds) (h : atI ds i = some d) : ∃ v, atI vs i = some v ∧ d.old ∧ Dt K G B H v d := by
  unfold atI at h ⊢
  rw [← hs.length] at h
  cases e : ixN vs.length i with
  | none => rw [e] at h; cases h
  | some j =>
    rw [e] at h
    exact hs.get h
theorem out_opt {α : Type} {o : Option α} {P : α → Prop} {E : Exn → Prop} (h : (ofO o).P P E) : ∃ d, o = some d ∧ P d := by
  cases o with
  | none => exact h.elim
  | some d => exact ⟨d, rfl, h⟩
theorem v_ix : V2 K (rIxU K) ixV := ⟨fun G B H x y dx dy R gh bh d1 d2 h => by
  unfold ixV at h
  split at h
  · rename_i z i
    by_cases hz : z.length ≤ sizeLine
    · rw [if_pos hz] at h
      obtain ⟨d, e, k⟩ := out_opt h
      obtain ⟨c, e2, rfl⟩ := Option.map_eq_some_iff.mp e
      exact .inl (.inr (.inr ⟨z, i, c, dt_str d1, dt_int d2, hz, e2, kq_s gh k⟩))
    · rw [if_neg hz] at h; exact h.elim
  · obtain ⟨d, e, k⟩ := out_opt h
    obtain ⟨p, vs, rfl, hp, hp2, hs⟩ := dt_tup gh d1
    obtain ⟨v, hv, n, hd⟩ := atI_dts hs e
    exact .inl (.inr (.inl ⟨p, vs, _, v, rfl, dt_int d2, hp, hv, k.given gh hd (Fresh.of n)⟩))
  · obtain ⟨d, e, k⟩ := out_opt h
    obtain ⟨p, vs, rfl, hp, hs⟩ := dt_tuk gh d1
    obtain ⟨v, hv, n, hd⟩ := atI_dts hs e
    exact .inl (.inr (.inl ⟨p, vs, _, v, rfl, dt_int d2, hp, hv, k.given gh hd (Fresh.of n)⟩))
  · obtain ⟨d, e, k⟩ := out_opt h
    obtain ⟨p, vs, rfl, hp, hs⟩ := dt_lst gh bh d1
    obtain ⟨v, hv, n, hd⟩ := atI_dts hs e
    exact .inl (.inl ⟨p, vs, _, v, rfl, dt_int d2, hp, hv, k.given gh hd (Fresh.of n)⟩)
  · obtain ⟨d, e, k⟩ := out_opt h
    obtain ⟨o, e, eo⟩ := Option.bind_eq_some_iff.mp e
    obtain ⟨a, r, rfl, g, _, i2⟩ := dget_dt gh bh d1 d2 e
    obtain ⟨v, rfl, n, hd⟩ := i2 _ eo
    exact .inr ⟨a, v, rfl, g, k.given gh hd (Fresh.of n)⟩⟩

/-! ### x in y -/
def inB (x y : D) : Option Bool := match y with
  | .str z => (match x with | .str ⟨⟨[c]⟩⟩ => some (decide (c ∈ z.cps.toList)) | _ => none)
  | .tup ds => (match flatD x, flatDs ds with | some u, some us => some (inV u us) | _, _ => none)
  | .tuk ds => (match flatD x, flatDs ds with | some u, some us => some (inV u us) | _, _ => none)
  | .lst _ ds => (match flatD x, flatDs ds with
    | some u, some us => some (inV u us)
    | _, _ => if D.ok 64 x = true ∧ D.okL 63 ds = true then some (ds.any fun z => deq z x) else none)
  | d => (dgetD d x).map Option.isSome
def inU (x y : D) : Out Exn D := outB false (inB x y)
def ninU (x y : D) : Out Exn D := outB true (inB x y)
def rDIn (neg : Bool) : R2 := fun x y H Q => ∃ a o, y = .ref a ∧ DGet H a x o ∧ Q (.bl (if neg = true then !o.isSome else o.isSome)) H
theorem op_dIn (hu : X.A.units + 1 < cLine) : OpR X (compareOp .In) (rDIn false) := by
  intro pins s σ H x y v u Q I rx ry h
  obtain ⟨a, o, rfl, g, q⟩ := h
  obtain rfl : u = Value.ref a := ry
  exact d_in hu I g rx fun s3 I3 => ⟨.bl o.isSome, H, I3, rfl, by simpa using q⟩
theorem op_dNotIn (hu : X.A.units + 1 < cLine) : OpR X (compareOp .NotIn) (rDIn true) := by
  intro pins s σ H x y v u Q I rx ry h
  obtain ⟨a, o, rfl, g, q⟩ := h
  obtain rfl : u = Value.ref a := ry
  exact d_notIn hu I g rx fun s3 I3 => ⟨.bl (!o.isSome), H, I3, rfl, by simpa using q⟩
abbrev rInU (K : PySem.W.Frag) : R2 := fun x y H Q => (∃ (c : Nat) (z : Str), x = .str ⟨#[c]⟩ ∧ y = .str z ∧ Q (.bl (decide (c ∈ z.cps.toList))) H) ∨ rIn K false x y H Q ∨ rInD K x y H Q ∨ rDIn false x y H Q
abbrev rNotInU (K : PySem.W.Frag) : R2 := fun x y H Q => (∃ (c : Nat) (z : Str), x = .str ⟨#[c]⟩ ∧ y = .str z ∧ Q (.bl (!decide (c ∈ z.cps.toList))) H) ∨ rIn K true x y H Q ∨ rNotInD K x y H Q ∨ rDIn true x y H Q
theorem op_inU (hu : X.A.units + 65 < cLine) : OpR X (compareOp .In) (rInU X.K) := op_in_sign.or (op_in_seq.or ((op_inD hu).or (op_dIn (by omega))))
theorem op_notInU (hu : X.A.units + 65 < cLine) : OpR X (compareOp .NotIn) (rNotInU X.K) := op_notIn_sign.or (op_notIn_seq.or ((op_notInD hu).or (op_dNotIn (by omega))))
theorem pdL_any (x : D) : ∀ ds : List D, ((D.pdL ds).any fun z => PyData.eqv z (D.pd x)) = ds.any fun z => deq z x
  | [] => rfl
  | d :: ds => by
    show (PyData.eqv (D.pd d) (D.pd x) || (D.pdL ds).any _) = (deq d x || _)
    rw [pdL_any x ds]; rfl
/-- the four ways in which a membership is told -/
theorem inB_rd {G B H : Hp} {x y : V} {dx dy : D} {b : Bool} (gh : Same G H) (bh : Same B H) (d1 : Dt K G B H x dx) (d2 : Dt K G B H y dy) (h : inB dx dy = some b) :
    (∃ (c : Nat) (z : Str), x = .str ⟨#[c]⟩ ∧ y = .str z ∧ b = decide (c ∈ z.cps.toList)) ∨
    (∃ p xs, y = .ref p ∧ (SqL K H p xs ∨ SqT K H p xs) ∧ flatV x = true ∧ xs.all flatV = true ∧ b = inV x xs) ∨
    (∃ d ds, Dp K H x d ∧ Dp K H y (.list ds) ∧ SeqAt.shaped d = true ∧ SeqAt.shaped (.list ds) = true ∧ b = ds.any fun z => PyData.eqv z d) ∨
    ∃ a o, y = .ref a ∧ DGet H a x o ∧ b = o.isSome := by
  unfold inB at h
  split at h
  · split at h
    · rename_i c
      cases h
      exact .inl ⟨c, _, dt_str d1, dt_str d2, rfl⟩
    · cases h
  · split at h
    · rename_i e1 e2
      cases h
      obtain ⟨p, vs, rfl, hp, hp2, hs⟩ := dt_tup gh d2
      obtain ⟨rfl, f1⟩ := flat_dt d1 e1
      obtain ⟨rfl, f2⟩ := flats_dt hs e2
      exact .inr (.inl ⟨p, vs, rfl, .inr hp, f1, f2, rfl⟩)
    · cases h
  · split at h
    · rename_i e1 e2
      cases h
      obtain ⟨p, vs, rfl, hp, hs⟩ := dt_tuk gh d2
      obtain ⟨rfl, f1⟩ := flat_dt d1 e1
      obtain ⟨rfl, f2⟩ := flats_dt hs e2
      exact .inr (.inl ⟨p, vs, rfl, .inr hp, f1, f2, rfl⟩)
    · cases h
  · rename_i f ds
    split at h
    · rename_i e1 e2
      cases h
      obtain ⟨p, vs, rfl, hp, hs⟩ := dt_lst gh bh d2
      obtain ⟨rfl, f1⟩ := flat_dt d1 e1
      obtain ⟨rfl, f2⟩ := flats_dt hs e2
      exact .inr (.inl ⟨p, vs, rfl, .inl hp, f1, f2, rfl⟩)
    · by_cases hc : D.ok 64 dx = true ∧ D.okL 63 ds = true
      · rw [if_pos hc] at h
        cases h
        obtain ⟨_, d1⟩ := d1
        obtain ⟨_, d2⟩ := d2
        have o2 : D.ok 64 (.lst f ds) = true := by simpa [D.ok] using hc.2
        have e2 := dat_dp gh bh o2 d2
        have sh := ok_shaped o2
        simp only [D.pd] at e2 sh
        exact .inr (.inr (.inl ⟨_, _, dat_dp gh bh hc.1 d1, e2, ok_shaped hc.1, sh, (pdL_any _ _).symm⟩))
      · rw [if_neg hc] at h; cases h
  · cases e : dgetD dy dx with
    | none => rw [e] at h; cases h
    | some o =>
      rw [e] at h
      cases h
      obtain ⟨a, r, rfl, g, i1, i2⟩ := dget_dt gh bh d2 d1 e
      refine .inr (.inr (.inr ⟨a, r, rfl, g, ?_⟩))
      cases o with
      | none => rw [i1 rfl]; rfl
      | some e' => obtain ⟨v, rfl, _⟩ := i2 _ rfl; rfl
theorem v_in : V2 K (rInU K) inU := ⟨fun G B H x y dx dy R gh bh d1 d2 h => by
  obtain ⟨b, e, k⟩ := outB_P h
  have k' : R (.bl b) H := kq_b gh (by simpa using k)
  rcases inB_rd gh bh d1 d2 e with ⟨c, z, h1, h2, rfl⟩ | ⟨p, xs, h1, h2, h3, h4, rfl⟩ | ⟨d, ds, h1, h2, h3, h4, rfl⟩ | ⟨a, o, h1, h2, rfl⟩
  · exact .inl ⟨c, z, h1, h2, k'⟩
  · exact .inr (.inl ⟨p, xs, h1, h2, h3, h4, by simpa using k'⟩)
  · exact .inr (.inr (.inl ⟨d, ds, h1, h2, h3, h4, k'⟩))
  · exact .inr (.inr (.inr ⟨a, o, h1, h2, by simpa using k'⟩))⟩
theorem v_nin : V2 K (rNotInU K) ninU := ⟨fun G B H x y dx dy R gh bh d1 d2 h => by
  obtain ⟨b, e, k⟩ := outB_P h
  have k' : R (.bl (!b)) H := kq_b gh (by simpa using k)
  rcases inB_rd gh bh d1 d2 e with ⟨c, z, h1, h2, rfl⟩ | ⟨p, xs, h1, h2, h3, h4, rfl⟩ | ⟨d, ds, h1, h2, h3, h4, rfl⟩ | ⟨a, o, h1, h2, rfl⟩
  · exact .inl ⟨c, z, h1, h2, k'⟩
  · exact .inr (.inl ⟨p, xs, h1, h2, h3, h4, by simpa using k'⟩)
  · exact .inr (.inr (.inl ⟨d, ds, h1, h2, h3, h4, k'⟩))
  · exact .inr (.inr (.inr ⟨a, o, h1, h2, by simpa using k'⟩))⟩
end
end VL

/-! VLf: calls of builtins as functions on trees. -/
namespace VL
open PySem PySem.Spec PyProof.Rows L2

/-! ### dicts changed -/
def putD (kvs : List (Kd × D)) (k : Kd) (d : D) : List (Kd × D) :=
  if (kvs.any fun e => decide (e.1 = k)) = true then kvs.map (fun e => if e.1 = k then (e.1, d) else e) else kvs ++ [(k, d)]
def mergeD (kvs more : List (Kd × D)) : List (Kd × D) := more.foldl (fun acc e => putD acc e.1 e.2) kvs
def dropD (kvs : List (Kd × D)) (k : Kd) : List (Kd × D) := kvs.filter fun e => decide (e.1 ≠ k)
section
variable {K : PySem.W.Frag} {G B H : Hp}
theorem Dtm.append : ∀ {vs : List (Kd × V)} {ds : List (Kd × D)} {ws : List (Kd × V)} {es : List (Kd × D)}, Dtm K G B H vs ds → Dtm K G B H ws es → Dtm K G B H (vs ++ ws) (ds ++ es)
  | [], [], _, _, _, h => h
  | [], d :: ds, _, _, h, _ => by have := h.length; simp at this
  | v :: vs, [], _, _, h, _ => by have := h.length; simp at this
  | (k, v) :: vs, (k', d) :: ds, _, _, h, h' => by
    obtain ⟨rfl, n, h1, h2⟩ := h.uncons
    exact Dtm.cons n h1 (Dtm.append h2 h')
theorem dtm_any {κ : Type} [DecidableEq κ] {f : κ → Kd} (hf : ∀ a b, f a = f b → a = b) {k : κ} : ∀ {vs : List (κ × V)} {ds : List (Kd × D)}, Dtm K G B H (vs.map fun e => (f e.1, e.2)) ds → (vs.any fun e => decide (e.1 = k)) = ds.any fun e => decide (e.1 = f k)
  | [], [], _ => rfl
  | [], d :: ds, h => by have := h.length; simp at this
  | v :: vs, [], h => by have := h.length; simp at this
  | (k0, v) :: vs, (k', d) :: ds, h => by
    obtain ⟨rfl, n, h1, h2⟩ := Dtm.uncons (k := f k0) (v := v) (vs := vs.map fun e => (f e.1, e.2)) h
    rw [List.any_cons, List.any_cons, dtm_any hf h2]
    have : decide (k0 = k) = decide (f k0 = f k) := by
      by_cases e : k0 = k
      · subst e; simp
      · rw [decide_eq_false e, decide_eq_false fun z => e (hf _ _ z)]
    rw [this]
theorem dtm_swap {κ : Type} [DecidableEq κ] {f : κ → Kd} (hf : ∀ a b, f a = f b → a = b) {k : κ} {v : V} {d : D} (n : d.old) (hd : Dt K G B H v d) : ∀ {vs : List (κ × V)} {ds : List (Kd × D)}, Dtm K G B H (vs.map fun e => (f e.1, e.2)) ds →
    Dtm K G B H ((vs.map fun e => if e.1 = k then (e.1, v) else e).map fun e => (f e.1, e.2)) (ds.map fun e => if e.1 = f k then (e.1, d) else e)
  | [], [], _ => Dtm.nil
  | [], d :: ds, h => by have := h.length; simp at this
  | v :: vs, [], h => by have := h.length; simp at this
  | (k0, v0) :: vs, (k', d0) :: ds, h => by
    obtain ⟨rfl, n0, h1, h2⟩ := Dtm.uncons (k := f k0) (v := v0) (vs := vs.map fun e => (f e.1, e.2)) h
    have ih := dtm_swap hf (k := k) n hd h2
    by_cases e : k0 = k
    · subst e
      simp only [List.map_cons, if_true]
      exact Dtm.cons n hd ih
    · have e2 : ¬ f k0 = f k := fun z => e (hf _ _ z)
      simp only [List.map_cons, e, e2, if_false]
      exact Dtm.cons n0 h1 ih
theorem dtm_put {κ : Type} [DecidableEq κ] {f : κ → Kd} (hf : ∀ a b, f a = f b → a = b) {k : κ} {v : V} {d : D} {vs : List (κ × V)} {ds : List (Kd × D)} (h : Dtm K G B H (vs.map fun e => (f e.1, e.2)) ds) (n : d.old) (hd : Dt K G B H v d) :
    Dtm K G B H ((putK vs k v).map fun e => (f e.1, e.2)) (putD ds (f k) d) := by
  unfold putK putD
  rw [← dtm_any hf (k := k) h]
  split
  · exact dtm_swap hf n hd h
  · rw [List.map_append]
    exact h.append (Dtm.cons n hd Dtm.nil)
theorem inj_k : ∀ a b : Key, Kd.k a = Kd.k b → a = b := fun a b e => by simpa using e
theorem inj_t : ∀ a b : List Key, Kd.t a = Kd.t b → a = b := fun a b e => by simpa using e
theorem inj_f : ∀ a b : Str, kS a = kS b → a = b := fun a b e => by simpa using e
theorem dtm_merge : ∀ {more : List (Key × V)} {mds : List (Kd × D)} {vs : List (Key × V)} {ds : List (Kd × D)}, Dtm K G B H (more.map kK) mds → Dtm K G B H (vs.map kK) ds → Dtm K G B H ((mergeK vs more).map kK) (mergeD ds mds)
  | [], [], _, _, _, h => h
  | [], d :: ds, _, _, h, _ => by have := h.length; simp at this
  | v :: vs, [], _, _, h, _ => by have := h.length; simp at this
  | (k, v) :: more, (k', d) :: mds, vs, ds, h, r => by
    obtain ⟨rfl, n, h1, h2⟩ := Dtm.uncons (k := .k k) (v := v) (vs := more.map kK) h
    exact dtm_merge (vs := putK vs k v) (ds := putD ds (.k k) d) h2 (dtm_put (f := Kd.k) inj_k r n h1)
theorem dtm_keys : ∀ {vs : List (Key × V)} {ds : List (Kd × D)}, Dtm K G B H (vs.map kK) ds → Dts K G B H (vs.map fun e => kV e.1) (ds.map fun e => kdD e.1)
  | [], [], _ => Dts.nil
  | [], d :: ds, h => by have := h.length; simp at this
  | v :: vs, [], h => by have := h.length; simp at this
  | (k, v) :: vs, (k', d) :: ds, h => by
    obtain ⟨rfl, n, h1, h2⟩ := Dtm.uncons (k := .k k) (v := v) (vs := vs.map kK) h
    exact Dts.cons (kD_dt (K := K) (G := G) (B := B) (H := H) k).1 (kD_dt k).2 (dtm_keys h2)
theorem KQ.floorD {R : VK} {p : Addr} {vs : List (Key × V)} {ds : List (Kd × D)} (gh : Same G H) (hp : H p = none) (hd : Dtm K G B H (vs.map kK) ds) (k : KQ K G B H R (.dic .new ds)) : R (.ref p) (upd H p (.dK vs)) := by
  have e := Ext.lay (o := .dK vs) gh hp
  obtain ⟨S, h⟩ := Dtm.ext e hd
  exact k G _ _ e ⟨_, .dic (f := .new) (.inl upd_same) h⟩ fun _ => ⟨p, rfl, hp, Same.free gh hp⟩
end

/-! ### len, list, tuple, dict -/
def lenN : D → Option Nat
  | .str z => if z.length ≤ sizeLine then some z.length else none
  | .lst _ ds => some ds.length
  | .tup ds => some ds.length
  | .tuk ds => some ds.length
  | .dic _ kvs => some kvs.length
  | .dit _ kvs => some kvs.length
  | _ => none
def lenV : List D → Out Exn D
  | [d] => ofO ((lenN d).map fun n => .int (n : Nat))
  | _ => .no
def pairsD : List D → Option (List (Kd × D))
  | [] => some []
  | .tup [k, d] :: r => match keyK k, pairsD r with
    | some k, some kvs => some ((.k k, d) :: kvs)
    | _, _ => none
  | _ :: _ => none
def listV : List D → Out Exn D
  | [.lst _ ds] => .ok (.lst .new ds)
  | [.tup ds] => .ok (.lst .new ds)
  | [.dic _ kvs] => .ok (.lst .new (kvs.map fun e => kdD e.1))
  | _ => .no
def tupleV : List D → Out Exn D
  | [.lst _ ds] => .ok (.tup ds)
  | [.tup ds] => .ok (.tup ds)
  | _ => .no
def dictV : List D → Out Exn D
  | [.lst _ ds] => ofO ((pairsD ds).map fun kvs => .dic .new (mergeD [] kvs))
  | [.dic _ kvs] => .ok (.dic .new kvs)
  | _ => .no
section
variable {K : PySem.W.Frag} {X : Cx}
theorem call_lenDR : CallR X (.builtin "len") (fun xs H Q => ∃ p kvs, xs = [V.ref p] ∧ Rd H p (.dK kvs) ∧ Q (.int (kvs.length : Nat)) H) := by
  intro pins s σ H xs us Q I r h
  obtain ⟨p, kvs, rfl, hp, q⟩ := h
  obtain ⟨u, rfl, rx⟩ := vals1 r
  cases rx
  exact d_len I hp fun t s' I' => ⟨.int (kvs.length : Nat), H, I', ⟨t, rfl⟩, q⟩
theorem call_lenTR : CallR X (.builtin "len") (fun xs H Q => ∃ p kvs, xs = [V.ref p] ∧ Rd H p (.dT kvs) ∧ Q (.int (kvs.length : Nat)) H) := by
  intro pins s σ H xs us Q I r h
  obtain ⟨p, kvs, rfl, hp, q⟩ := h
  obtain ⟨u, rfl, rx⟩ := vals1 r
  obtain rfl : u = .ref p := rx
  obtain ⟨z, hd, ys, rel, dd⟩ := dt_rd I.hok hp
  have hl : kvs.length = ys.length := Paired.length rel
  refine call_len_dictH hd dd (by rw [← hl]; rw [sizeLine_eq] at z; omega) ?_
  rw [← hl]
  exact ⟨.int ((kvs.length : Nat) : Int), H, I.tok _, ⟨_, rfl⟩, q⟩
theorem CallR.or {f : Value} {r r' : List V → Hp → VK → Prop} (h : CallR X f r) (h' : CallR X f r') : CallR X f (fun xs H Q => r xs H Q ∨ r' xs H Q) := fun pins s σ H xs us Q I rs q => q.elim (h pins s σ H xs us Q I rs) (h' pins s σ H xs us Q I rs)
abbrev rLenU (K : PySem.W.Frag) : List V → Hp → VK → Prop := fun xs H Q => (∃ z, xs = [.str z] ∧ z.length ≤ sizeLine ∧ Q (.int z.length) H) ∨ (∃ p ys, xs = [.ref p] ∧ (SqL K H p ys ∨ SqT K H p ys) ∧ Q (.int ys.length) H) ∨
  (∃ p kvs, xs = [V.ref p] ∧ Rd H p (.dK kvs) ∧ Q (.int (kvs.length : Nat)) H) ∨ (∃ p kvs, xs = [V.ref p] ∧ Rd H p (.dT kvs) ∧ Q (.int (kvs.length : Nat)) H)
theorem call_lenU : CallR X (.builtin "len") (rLenU X.K) := call_len_str.or (call_len_seq.or (call_lenDR.or call_lenTR))
theorem v_len : Vs K (rLenU K) lenV := ⟨fun G B H xs ds R gh bh dd h => by
  unfold lenV at h
  split at h
  · rename_i d
    obtain ⟨v, rfl, hd⟩ := dts1 dd
    obtain ⟨e, en, k⟩ := out_opt h
    obtain ⟨n, eq1, rfl⟩ := Option.map_eq_some_iff.mp en
    have kk := kq_int gh k
    cases d with
    | str z =>
      simp only [lenN] at eq1
      by_cases hz : z.length ≤ sizeLine
      · rw [if_pos hz] at eq1; cases eq1; exact .inl ⟨z, by rw [dt_str hd], hz, kk⟩
      · rw [if_neg hz] at eq1; cases eq1
    | lst f ds =>
      cases eq1
      obtain ⟨p, vs, rfl, hp, hs⟩ := dt_lst gh bh hd
      exact .inr (.inl ⟨p, vs, rfl, .inl hp, by rw [hs.length]; exact kk⟩)
    | tup ds =>
      cases eq1
      obtain ⟨p, vs, rfl, hp, _, hs⟩ := dt_tup gh hd
      exact .inr (.inl ⟨p, vs, rfl, .inr hp, by rw [hs.length]; exact kk⟩)
    | tuk ds =>
      cases eq1
      obtain ⟨p, vs, rfl, hp, hs⟩ := dt_tuk gh hd
      exact .inr (.inl ⟨p, vs, rfl, .inr hp, by rw [hs.length]; exact kk⟩)
    | dic f ds =>
      cases eq1
      obtain ⟨p, vs, rfl, hp, hs⟩ := dt_dic gh bh hd
      exact .inr (.inr (.inl ⟨p, vs, rfl, hp, by have := hs.length; rw [List.length_map] at this; rw [this]; exact kk⟩))
    | dit f ds =>
      cases eq1
      obtain ⟨p, vs, rfl, hp, hs⟩ := dt_dit gh bh hd
      exact .inr (.inr (.inr ⟨p, vs, rfl, hp, by have := hs.length; rw [List.length_map] at this; rw [this]; exact kk⟩))
    | _ => cases eq1
  · exact h.elim⟩
abbrev rListU (K : PySem.W.Frag) : List V → Hp → VK → Prop := fun xs H Q => (∃ p ys, xs = [.ref p] ∧ (SqL K H p ys ∨ SqT K H p ys) ∧ ∀ l, H l = none → Q (.ref l) (upd H l (.lst ys))) ∨
  (∃ (a : Addr) (kvs : List (Key × V)), xs = [.ref a] ∧ Rd H a (.dK kvs) ∧ ∀ p, H p = none → Q (.ref p) (upd H p (.lst (kvs.map fun kv => kV kv.1))))
theorem call_listU (hc : X.calm = true) : CallR X (.type "list") (rListU X.K) := call_list_of.or (call_listD hc)
theorem v_list : Vs K (rListU K) listV := ⟨fun G B H xs ds R gh bh dd h => by
  unfold listV at h
  split at h
  · obtain ⟨v, rfl, hd⟩ := dts1 dd
    obtain ⟨p, vs, rfl, hp, hs⟩ := dt_lst gh bh hd
    exact .inl ⟨p, vs, rfl, .inl hp, fun l hl => KQ.floorL gh hl hs h⟩
  · obtain ⟨v, rfl, hd⟩ := dts1 dd
    obtain ⟨p, vs, rfl, hp, _, hs⟩ := dt_tup gh hd
    exact .inl ⟨p, vs, rfl, .inr hp, fun l hl => KQ.floorL gh hl hs h⟩
  · obtain ⟨v, rfl, hd⟩ := dts1 dd
    obtain ⟨p, vs, rfl, hp, hs⟩ := dt_dic gh bh hd
    exact .inr ⟨p, vs, rfl, hp, fun l hl => KQ.floorL gh hl (dtm_keys hs) h⟩
  · exact h.elim⟩
theorem v_tuple : Vs K (fun xs H Q => ∃ p ys, xs = [.ref p] ∧ ((SqL K H p ys ∧ ∀ l, H l = none → Q (.ref l) (upd H l (.tup ys))) ∨ (SqT K H p ys ∧ Q (.ref p) H))) tupleV := ⟨fun G B H xs ds R gh bh dd h => by
  unfold tupleV at h
  split at h
  · obtain ⟨v, rfl, hd⟩ := dts1 dd
    obtain ⟨p, vs, rfl, hp, hs⟩ := dt_lst gh bh hd
    exact ⟨p, vs, rfl, .inl ⟨hp, fun l hl => KQ.floorT gh hl hs h⟩⟩
  · obtain ⟨v, rfl, hd⟩ := dts1 dd
    obtain ⟨p, vs, rfl, hp, _, hs⟩ := dt_tup gh hd
    exact ⟨p, vs, rfl, .inr ⟨hp, KQ.given gh h hd (Fresh.of (by simp [D.root]))⟩⟩
  · exact h.elim⟩
theorem pairs_dts {G B H : Hp} (gh : Same G H) : ∀ {vs : List V} {ds : List D} {kvs : List (Kd × D)}, Dts K G B H vs ds → pairsD ds = some kvs → ∃ (ps : List Addr) (ws : List (Key × V)), vs = ps.map V.ref ∧ Paired (fun p kv => SqT K H p [kV kv.1, kv.2]) ps ws ∧ Dtm K G B H (ws.map kK) kvs
  | [], [], kvs, _, e => by cases e; exact ⟨[], [], rfl, .nil, Dtm.nil⟩
  | [], d :: ds, _, h, _ => by have := h.length; simp at this
  | v :: vs, [], _, h, _ => by have := h.length; simp at this
  | v :: vs, d :: ds, kvs, h, e => by
    obtain ⟨_, hh, t⟩ := h.uncons
    unfold pairsD at e
    split at e
    · rename_i heq; cases heq
    · rename_i k d' r heq
      cases heq
      cases e1 : keyK k with
      | none => rw [e1] at e; cases e
      | some k' =>
        cases e2 : pairsD ds with
        | none => rw [e1, e2] at e; cases e
        | some kvs' =>
          rw [e1, e2] at e
          cases e
          obtain ⟨ps, ws, rfl, h1, h2⟩ := pairs_dts gh t e2
          obtain ⟨p, us, rfl, hT, _, hs⟩ := dt_tup gh hh
          match us, hs with
          | [u, w], hs =>
            obtain ⟨_, hu, hs⟩ := hs.uncons
            obtain ⟨n, hw, _⟩ := hs.uncons
            have := key_dt hu e1
            subst this
            exact ⟨p :: ps, (k', w) :: ws, rfl, .cons hT h1, Dtm.cons n hw h2⟩
          | [], hs => have := hs.length; simp at this
          | [_], hs => have := hs.length; simp at this
          | _ :: _ :: _ :: _, hs => have := hs.length; simp at this
    · cases e
abbrev rDictU (K : PySem.W.Frag) : List V → Hp → VK → Prop := fun xs H Q => (∃ (a : Addr) (ps : List Addr) (kvs : List (Key × V)), xs = [.ref a] ∧ SqL K H a (ps.map V.ref) ∧ Paired (fun p kv => SqT K H p [kV kv.1, kv.2]) ps kvs ∧ ∀ p, H p = none → Q (.ref p) (upd H p (.dK (mergeK [] kvs)))) ∨
  (∃ (a : Addr) (kvs : List (Key × V)), xs = [.ref a] ∧ Rd H a (.dK kvs) ∧ ∀ p, H p = none → Q (.ref p) (upd H p (.dK kvs)))
theorem call_dictU (hc : X.calm = true) : CallR X (.type "dict") (rDictU X.K) := (call_dictP hc).or call_dictD
theorem v_dict : Vs K (rDictU K) dictV := ⟨fun G B H xs ds R gh bh dd h => by
  unfold dictV at h
  split at h
  · obtain ⟨v, rfl, hd⟩ := dts1 dd
    obtain ⟨p, vs, rfl, hp, hs⟩ := dt_lst gh bh hd
    obtain ⟨e, en, k⟩ := out_opt h
    obtain ⟨kvs, eq1, rfl⟩ := Option.map_eq_some_iff.mp en
    obtain ⟨ps, ws, rfl, h1, h2⟩ := pairs_dts gh hs eq1
    exact .inl ⟨p, ps, ws, rfl, hp, h1, fun q hq => KQ.floorD gh hq (dtm_merge h2 Dtm.nil) k⟩
  · obtain ⟨v, rfl, hd⟩ := dts1 dd
    obtain ⟨p, vs, rfl, hp, hs⟩ := dt_dic gh bh hd
    exact .inr ⟨p, vs, rfl, hp, fun q hq => KQ.floorD gh hq hs h⟩
  · exact h.elim⟩

/-! ### all, any, sum, max, min -/
def blsD : List D → Option (List Bool)
  | [] => some []
  | .bl b :: ds => (blsD ds).map (b :: ·)
  | _ :: _ => none
def intsD : List D → Option (List Int)
  | [] => some []
  | .int b :: ds => (intsD ds).map (b :: ·)
  | _ :: _ => none
def strsD : List D → Option (List Str)
  | [] => some []
  | .str b :: ds => (strsD ds).map (b :: ·)
  | _ :: _ => none
theorem bls_dts {G B H : Hp} : ∀ {vs : List V} {ds : List D} {bs : List Bool}, Dts K G B H vs ds → blsD ds = some bs → vs = bs.map V.bl
  | [], [], _, _, e => by cases e; rfl
  | [], d :: ds, _, h, _ => by have := h.length; simp at this
  | v :: vs, [], _, h, _ => by have := h.length; simp at this
  | v :: vs, d :: ds, bs, h, e => by
    obtain ⟨_, h, t⟩ := h.uncons
    cases d with
    | bl b =>
      obtain ⟨cs, e2, rfl⟩ := Option.map_eq_some_iff.mp (show (blsD ds).map (b :: ·) = some bs from e)
      rw [dt_bl h, bls_dts t e2] <;> rfl
    | _ => cases e
theorem ints_dts {G B H : Hp} : ∀ {vs : List V} {ds : List D} {bs : List Int}, Dts K G B H vs ds → intsD ds = some bs → vs = bs.map V.int
  | [], [], _, _, e => by cases e; rfl
  | [], d :: ds, _, h, _ => by have := h.length; simp at this
  | v :: vs, [], _, h, _ => by have := h.length; simp at this
  | v :: vs, d :: ds, bs, h, e => by
    obtain ⟨_, h, t⟩ := h.uncons
    cases d with
    | int b =>
      obtain ⟨cs, e2, rfl⟩ := Option.map_eq_some_iff.mp (show (intsD ds).map (b :: ·) = some bs from e)
      rw [dt_int h, ints_dts t e2] <;> rfl
    | _ => cases e
theorem strs_dts {G B H : Hp} : ∀ {vs : List V} {ds : List D} {bs : List Str}, Dts K G B H vs ds → strsD ds = some bs → vs = bs.map V.str
  | [], [], _, _, e => by cases e; rfl
  | [], d :: ds, _, h, _ => by have := h.length; simp at this
  | v :: vs, [], _, h, _ => by have := h.length; simp at this
  | v :: vs, d :: ds, bs, h, e => by
    obtain ⟨_, h, t⟩ := h.uncons
    cases d with
    | str b =>
      obtain ⟨cs, e2, rfl⟩ := Option.map_eq_some_iff.mp (show (strsD ds).map (b :: ·) = some bs from e)
      rw [dt_str h, strs_dts t e2] <;> rfl
    | _ => cases e
theorem strs_dt {G B H : Hp} (ss : List Str) : Dts K G B H (ss.map V.str) (ss.map D.str) := dts_map (fun s => ⟨by simp [D.root], _, .str s⟩) ss
theorem blsD_map (bs : List Bool) : blsD (bs.map D.bl) = some bs := by
  induction bs with
  | nil => rfl
  | cons b bs ih => simp [blsD, ih]
theorem intsD_map (bs : List Int) : intsD (bs.map D.int) = some bs := by
  induction bs with
  | nil => rfl
  | cons b bs ih => simp [intsD, ih]
theorem strsD_map (bs : List Str) : strsD (bs.map D.str) = some bs := by
  induction bs with
  | nil => rfl
  | cons b bs ih => simp [strsD, ih]
def allV : List D → Out Exn D
  | [.lst _ ds] => ofO ((blsD ds).map fun bs => .bl (bs.all id))
  | _ => .no
def anyV : List D → Out Exn D
  | [.lst _ ds] => ofO ((blsD ds).map fun bs => .bl (bs.any id))
  | _ => .no
def sumV : List D → Out Exn D
  | [.lst _ ds] => ofO ((intsD ds).map fun bs => .int bs.sum)
  | _ => .no
def maxI : List Int → Int
  | [] => 0
  | [a] => a
  | a :: b :: r => max a (maxI (b :: r))
def minI : List Int → Int
  | [] => 0
  | [a] => a
  | a :: b :: r => min a (minI (b :: r))
theorem maxI_mem : ∀ {xs : List Int}, xs ≠ [] → maxI xs ∈ xs ∧ ∀ y ∈ xs, y ≤ maxI xs
  | [a], _ => ⟨by simp [maxI], fun y h => by simp at h; subst h; simp [maxI]⟩
  | a :: b :: r, _ => by
    obtain ⟨h1, h2⟩ := maxI_mem (xs := b :: r) (by simp)
    simp only [maxI]
    refine ⟨?_, fun y hy => ?_⟩
    · by_cases h : a ≤ maxI (b :: r)
      · rw [Int.max_eq_right h]; exact List.mem_cons_of_mem _ h1
      · rw [Int.max_eq_left (by omega)]; exact List.mem_cons_self
    · rcases List.mem_cons.mp hy with rfl | hy
      · exact Int.le_max_left _ _
      · exact Int.le_trans (h2 y hy) (Int.le_max_right _ _)
theorem minI_mem : ∀ {xs : List Int}, xs ≠ [] → minI xs ∈ xs ∧ ∀ y ∈ xs, minI xs ≤ y
  | [a], _ => ⟨by simp [minI], fun y h => by simp at h; subst h; simp [minI]⟩
  | a :: b :: r, _ => by
    obtain ⟨h1, h2⟩ := minI_mem (xs := b :: r) (by simp)
    simp only [minI]
    refine ⟨?_, fun y hy => ?_⟩
    · by_cases h : a ≤ minI (b :: r)
      · rw [Int.min_eq_left h]; exact List.mem_cons_self
      · rw [Int.min_eq_right (by omega)]; exact List.mem_cons_of_mem _ h1
    · rcases List.mem_cons.mp hy with rfl | hy
      · exact Int.min_le_left _ _
      · exact Int.le_trans (Int.min_le_right _ _) (h2 y hy)
def maxV : List D → Out Exn D
  | [.lst _ ds] => ofO ((intsD ds).bind fun bs => if bs = [] then none else some (.int (maxI bs)))
  | [.int i, .int j] => .ok (.int (if j > i then j else i))
  | _ => .no
def minV : List D → Out Exn D
  | [.lst _ ds] => ofO ((intsD ds).bind fun bs => if bs = [] then none else some (.int (minI bs)))
  | [.int i, .int j] => .ok (.int (if j < i then j else i))
  | _ => .no
theorem v_all : Vs K (rAll K) allV := ⟨fun G B H xs ds R gh bh dd h => by
  unfold allV at h
  split at h
  · obtain ⟨v, rfl, hd⟩ := dts1 dd
    obtain ⟨p, vs, rfl, hp, hs⟩ := dt_lst gh bh hd
    obtain ⟨e, en, k⟩ := out_opt h
    obtain ⟨bs, eq1, rfl⟩ := Option.map_eq_some_iff.mp en
    have := bls_dts hs eq1
    subst this
    exact ⟨p, bs, rfl, hp, kq_b gh k⟩
  · exact h.elim⟩
theorem v_any : Vs K (rAny K) anyV := ⟨fun G B H xs ds R gh bh dd h => by
  unfold anyV at h
  split at h
  · obtain ⟨v, rfl, hd⟩ := dts1 dd
    obtain ⟨p, vs, rfl, hp, hs⟩ := dt_lst gh bh hd
    obtain ⟨e, en, k⟩ := out_opt h
    obtain ⟨bs, eq1, rfl⟩ := Option.map_eq_some_iff.mp en
    have := bls_dts hs eq1
    subst this
    exact ⟨p, bs, rfl, hp, kq_b gh k⟩
  · exact h.elim⟩
theorem v_sum : Vs K (rSum K) sumV := ⟨fun G B H xs ds R gh bh dd h => by
  unfold sumV at h
  split at h
  · obtain ⟨v, rfl, hd⟩ := dts1 dd
    obtain ⟨p, vs, rfl, hp, hs⟩ := dt_lst gh bh hd
    obtain ⟨e, en, k⟩ := out_opt h
    obtain ⟨bs, eq1, rfl⟩ := Option.map_eq_some_iff.mp en
    have := ints_dts hs eq1
    subst this
    exact ⟨p, bs, rfl, hp, kq_int gh k⟩
  · exact h.elim⟩
abbrev rMaxU (K : PySem.W.Frag) : List V → Hp → VK → Prop := fun xs H Q => rMax K xs H Q ∨ ∃ i j, xs = [.int i, .int j] ∧ Q (.int (if j > i then j else i)) H
abbrev rMinU (K : PySem.W.Frag) : List V → Hp → VK → Prop := fun xs H Q => rMin K xs H Q ∨ ∃ i j, xs = [.int i, .int j] ∧ Q (.int (if j < i then j else i)) H
theorem call_maxU (hc : X.calm = true) : CallR X (.builtin "max") (rMaxU X.K) := (cr_max hc).or (call_max2 hc)
theorem call_minU (hc : X.calm = true) : CallR X (.builtin "min") (rMinU X.K) := (cr_min hc).or (call_min2 hc)
theorem v_max : Vs K (rMaxU K) maxV := ⟨fun G B H xs ds R gh bh dd h => by
  unfold maxV at h
  split at h
  · obtain ⟨v, rfl, hd⟩ := dts1 dd
    obtain ⟨p, vs, rfl, hp, hs⟩ := dt_lst gh bh hd
    obtain ⟨e, en, k⟩ := out_opt h
    obtain ⟨bs, eq1, e2⟩ := Option.bind_eq_some_iff.mp en
    by_cases hb : bs = []
    · rw [if_pos hb] at e2; cases e2
    · rw [if_neg hb] at e2
      cases e2
      have := ints_dts hs eq1
      subst this
      obtain ⟨m1, m2⟩ := maxI_mem hb
      refine .inl ⟨p, bs, rfl, hp, List.length_pos_iff.mpr hb, fun m a1 a2 => ?_⟩
      have : m = maxI bs := Int.le_antisymm (m2 m a1) (a2 _ m1)
      rw [this]; exact kq_int gh k
  · obtain ⟨v, w, rfl, h1, h2⟩ := dts2 dd
    exact .inr ⟨_, _, by rw [dt_int h1, dt_int h2], kq_int gh h⟩
  · exact h.elim⟩
theorem v_min : Vs K (rMinU K) minV := ⟨fun G B H xs ds R gh bh dd h => by
  unfold minV at h
  split at h
  · obtain ⟨v, rfl, hd⟩ := dts1 dd
    obtain ⟨p, vs, rfl, hp, hs⟩ := dt_lst gh bh hd
    obtain ⟨e, en, k⟩ := out_opt h
    obtain ⟨bs, eq1, e2⟩ := Option.bind_eq_some_iff.mp en
    by_cases hb : bs = []
    · rw [if_pos hb] at e2; cases e2
    · rw [if_neg hb] at e2
      cases e2
      have := ints_dts hs eq1
      subst this
      obtain ⟨m1, m2⟩ := minI_mem hb
      refine .inl ⟨p, bs, rfl, hp, List.length_pos_iff.mpr hb, fun m a1 a2 => ?_⟩
      have : m = minI bs := Int.le_antisymm (a2 _ m1) (m2 m a1)
      rw [this]; exact kq_int gh k
  · obtain ⟨v, w, rfl, h1, h2⟩ := dts2 dd
    exact .inr ⟨_, _, by rw [dt_int h1, dt_int h2], kq_int gh h⟩
  · exact h.elim⟩
/-! ### abs, int, str -/
def absV : List D → Out Exn D
  | [.int i] => .ok (.int (if i < 0 then -i else i))
  | _ => .no
def intV : List D → Out Exn D
  | [.int i] => .ok (.int i)
  | [.bl b] => .ok (.int (if b = true then 1 else 0))
  | [.str a] => if a.length ≤ 640 then ofO ((PySem.intText? a).map .int) else .no
  | _ => .no
def strV : List D → Out Exn D
  | [.int i] => if i.natAbs < 2 ^ 1900 then .ok (.str (toString i)) else .no
  | [.str a] => .ok (.str a)
  | _ => .no
theorem v_abs : Vs K (fun xs H Q => ∃ i, xs = [.int i] ∧ Q (.int (if i < 0 then -i else i)) H) absV := ⟨fun G B H xs ds R gh bh dd h => by
  unfold absV at h
  split at h
  · obtain ⟨v, rfl, hd⟩ := dts1 dd
    exact ⟨_, by rw [dt_int hd], kq_int gh h⟩
  · exact h.elim⟩
abbrev rIntU : List V → Hp → VK → Prop := fun xs H Q => ((∃ i, xs = [.int i] ∧ Q (.int i) H) ∨ ∃ k, xs = [.bl k] ∧ Q (.int (if k then 1 else 0)) H) ∨ ∃ a n, xs = [.str a] ∧ PySem.intText? a = some n ∧ a.length ≤ 640 ∧ Q (.int n) H
theorem call_intU : CallR X (.type "int") rIntU := call_int1.or call_int_str
theorem v_int : Vs K rIntU intV := ⟨fun G B H xs ds R gh bh dd h => by
  unfold intV at h
  split at h
  · obtain ⟨v, rfl, hd⟩ := dts1 dd
    exact .inl (.inl ⟨_, by rw [dt_int hd], kq_int gh h⟩)
  · obtain ⟨v, rfl, hd⟩ := dts1 dd
    exact .inl (.inr ⟨_, by rw [dt_bl hd], kq_int gh h⟩)
  · obtain ⟨v, rfl, hd⟩ := dts1 dd
    rename_i a
    by_cases hz : a.length ≤ 640
    · rw [if_pos hz] at h
      obtain ⟨e, en, k⟩ := out_opt h
      obtain ⟨n, eq1, rfl⟩ := Option.map_eq_some_iff.mp en
      exact .inr ⟨a, n, by rw [dt_str hd], eq1, hz, kq_int gh k⟩
    · rw [if_neg hz] at h; exact h.elim
  · exact h.elim⟩
end
end VL

/-! VLg: kinds, sorted, slices, texts, sizes of sets. -/
namespace VL
open PySem PySem.Spec PyProof.Rows L2

/-! ### isinstance, of plain things -/
def tyD : D → Option String
  | .non => some "NoneType"
  | .bl _ => some "bool"
  | .int _ => some "int"
  | .str _ => some "str"
  | .lst f _ => if f = .loc then none else some "list"
  | .tup _ => some "tuple"
  | .dic _ _ => some "dict"
  | _ => none
def isiV : List D → Out Exn D
  | [d, .ty t] => ofO (((tyD d).bind fun s => kitB s t).map .bl)
  | _ => .no
section
variable {K : PySem.W.Frag} {X : Cx}
theorem sqT_ty {H : Hp} {a : Addr} {xs : List V} (h : SqT K H a xs) : TyX K H (.ref a) (.type "tuple") := by
  rcases h with (h | ⟨o, h⟩) | ⟨o, its, n, h, hc, _⟩
  · exact .base (.tup h)
  · exact .fTuple h
  · exact .kTuple h hc
theorem tyD_at {G B H : Hp} {v : V} {d : D} {t : String} (gh : Same G H) (bh : Same B H) (hd : Dt K G B H v d) (h : tyD d = some t) : TyX K H v (.type t) := by
  cases d with
  | non => cases h; rw [dt_non hd]; exact .base .non
  | bl b => cases h; rw [dt_bl hd]; exact .base (.bl b)
  | int b => cases h; rw [dt_int hd]; exact .base (.int b)
  | str b => cases h; rw [dt_str hd]; exact .base (.str b)
  | lst f ds =>
    simp only [tyD] at h
    by_cases hf : f = .loc
    · rw [if_pos hf] at h; cases h
    · rw [if_neg hf] at h
      cases h
      obtain ⟨p, vs, rfl, hp, _⟩ := dt_lstX gh bh hf hd
      exact .base (.lst hp)
  | tup ds =>
    cases h
    obtain ⟨p, vs, rfl, hp, _⟩ := dt_tup gh hd
    exact sqT_ty hp
  | dic f ds =>
    cases h
    obtain ⟨p, vs, rfl, hp, _⟩ := dt_dic gh bh hd
    rcases hp with h | ⟨o, h⟩
    · exact .base (.dK h)
    · exact .fDict h
  | tuk _ => cases h
  | dit _ _ => cases h
  | ty _ => cases h
  | ref _ => cases h
  | obj _ _ _ => cases h
theorem v_isi : Vs K (rIsi K) isiV := ⟨fun G B H xs ds R gh bh dd h => by
  unfold isiV at h
  split at h
  · obtain ⟨v, w, rfl, hv, hw⟩ := dts2 dd
    obtain ⟨e, eq0, k⟩ := out_opt h
    obtain ⟨b, eq1, rfl⟩ := Option.map_eq_some_iff.mp eq0
    obtain ⟨s, e1, e2⟩ := Option.bind_eq_some_iff.mp eq1
    have := dt_ty hw
    subst this
    exact ⟨v, .ty _, .type s, .type _, b, rfl, .ty _, tyD_at gh bh hv e1, kit_ty e2, kq_b gh k⟩
  · exact h.elim⟩

/-! ### sorted -/
/-- the order of trees -/
def leD : D → D → Bool := PySem.W.dataLe false D.pd
abbrev leB : V × D → V × D → Bool := PySem.W.dataLe false fun b => D.pd b.2
def rSortB (K : PySem.W.Frag) : List V → Hp → VK → Prop := fun xs H Q => ∃ (a : Addr) (bs : List (V × D)), xs = [.ref a] ∧ SqL K H a (bs.map (·.1)) ∧ (∀ b ∈ bs, Dp K H b.1 (D.pd b.2) ∧ (D.pd b.2).depth ≤ 60) ∧ PySem.W.AllAlike (bs.map fun b => D.pd b.2) ∧ PySem.W.Sortable (bs.map fun b => D.pd b.2) ∧
  ∀ p, H p = none → Q (.ref p) (upd H p (.lst ((bs.mergeSort leB).map (·.1))))
theorem each_vals : ∀ {bs : List (V × D)} {us : List Value}, Vals (bs.map (·.1)) us → PySem.W.EachIs (fun u b => RelV b.1 u) us bs
  | [], _, h => by cases h; exact .nil
  | b :: bs, _, h => by
    cases h with
    | cons h1 t => exact .cons h1 (each_vals t)
theorem vals_each : ∀ {bs : List (V × D)} {us : List Value}, PySem.W.EachIs (fun u b => RelV b.1 u) us bs → Vals (bs.map (·.1)) us
  | [], _, h => by cases h; exact .nil
  | b :: bs, _, h => by
    cases h with
    | cons h1 t => exact .cons h1 (vals_each t)
theorem each_reads {pins : List (Addr × Obj)} {σ : L2.St} {H : Hp} {s : Shared} (I : Inv X pins σ H s) : ∀ {bs : List (V × D)} {us : List Value}, (∀ b ∈ bs, Dp X.K H b.1 (D.pd b.2)) → Vals (bs.map (·.1)) us → PySem.W.EachIs (fun u (b : V × D) => ∃ as, Reads s.heap u (D.pd b.2) as) us bs
  | [], _, _, h => by cases h; exact .nil
  | b :: bs, _, hb, h => by
    cases h with
    | cons h1 t => exact .cons (Dp.reads I _ _ _ (hb b List.mem_cons_self) h1) (each_reads I (fun c hc => hb c (List.mem_cons_of_mem _ hc)) t)
theorem cr_sortB (hu : X.A.units + 65 < cLine) : CallR X (.builtin "sorted") (rSortB X.K) := by
  intro pins s σ H vs us Q I r h
  obtain ⟨a, bs, rfl, hs, hb, hal, hk, q⟩ := h
  obtain ⟨its, rv, hl, hz⟩ := I.list hs
  rw [Vals.ref1 r]
  refine PySem.W.sorted_data (R := fun u b => RelV b.1 u) (bs := bs) (enc := fun b => D.pd b.2) hl.isList (each_vals rv) (each_reads I (fun b h => (hb b h).1) rv) hal hk (by rw [← List.length_map (as := bs) (·.1)]; exact hz) (fun b h => by have := (hb b h).2; omega) fun out ho eo => ?_
  obtain ⟨ep, he'⟩ := PyProof.Rows.sortedAll_at s.heap its out.toArray
  have hlen : ((bs.mergeSort leB).map (·.1)).length ≤ sizeLine := by
    rw [List.length_map, List.length_mergeSort, ← List.length_map (as := bs) (·.1)]; exact hz
  exact ⟨.ref _, upd H (s.heap.objs.size + 1) (.lst ((bs.mergeSort leB).map (·.1))), I.laid (t' := s.toks) (fun _ _ => PyProof.Rows.sortedAll_old) (Nat.le_succ _) ⟨hlen, out, ep, vals_each eo, he'⟩, rfl, q _ (I.hok.fresh (Nat.le_succ _))⟩
def SortOk (ds : List D) : Prop := D.okL 60 ds = true ∧ PySem.W.AllAlike (ds.map D.pd) ∧ PySem.W.Sortable (ds.map D.pd)
open Classical in
noncomputable def sortV : List D → Out Exn D
  | [.lst _ ds] => if SortOk ds then .ok (.lst .new (ds.mergeSort leD)) else .no
  | _ => .no
theorem zip_dts {G B H : Hp} : ∀ {vs : List V} {ds : List D}, Dts K G B H vs ds → ∃ bs : List (V × D), bs.map (·.1) = vs ∧ bs.map (·.2) = ds ∧ ∀ b ∈ bs, b.2.old ∧ Dt K G B H b.1 b.2
  | [], [], _ => ⟨[], rfl, rfl, fun b hb => nomatch hb⟩
  | [], d :: ds, h => by have := h.length; simp at this
  | v :: vs, [], h => by have := h.length; simp at this
  | v :: vs, d :: ds, h => by
    obtain ⟨n, h, t⟩ := h.uncons
    obtain ⟨bs, e1, e2, e3⟩ := zip_dts t
    exact ⟨(v, d) :: bs, by rw [List.map_cons, e1], by rw [List.map_cons, e2], fun b hb => by
      rcases List.mem_cons.mp hb with e | hb
      · subst e; exact ⟨n, h⟩
      · exact e3 b hb⟩
theorem dts_zip {G B H : Hp} : ∀ {bs : List (V × D)}, (∀ b ∈ bs, b.2.old ∧ Dt K G B H b.1 b.2) → Dts K G B H (bs.map (·.1)) (bs.map (·.2))
  | [], _ => Dts.nil
  | b :: bs, h => Dts.cons (h b List.mem_cons_self).1 (h b List.mem_cons_self).2 (dts_zip fun c hc => h c (List.mem_cons_of_mem _ hc))
theorem okL_mem {n : Nat} : ∀ {ds : List D}, D.okL n ds = true → ∀ d ∈ ds, D.ok n d = true
  | [], _, d, hd => nomatch hd
  | e :: ds, h, d, hd => by
    rw [D.okL, Bool.and_eq_true] at h
    rcases List.mem_cons.mp hd with q | q
    · subst q; exact h.1
    · exact okL_mem h.2 d q
theorem v_sort : Vs K (rSortB K) sortV := ⟨fun G B H xs ds R gh bh dd h => by
  unfold sortV at h
  split at h
  · rename_i f ds
    obtain ⟨v, rfl, hd⟩ := dts1 dd
    by_cases hc : SortOk ds
    case neg => rw [if_neg hc] at h; exact h.elim
    rw [if_pos hc] at h
    obtain ⟨e3, e4, e5⟩ := hc
    have k : KQ K G B H R (.lst .new (ds.mergeSort leD)) := h
    obtain ⟨a, vs, rfl, hS, hs⟩ := dt_lst gh bh hd
    obtain ⟨bs, b1, b2, b3⟩ := zip_dts hs
    subst b1 b2
    have em : (bs.map fun b => D.pd b.2) = (bs.map (·.2)).map D.pd := by rw [List.map_map]; rfl
    have hok : ∀ b ∈ bs, D.ok 60 b.2 = true := fun b hb => okL_mem e3 _ (List.mem_map.mpr ⟨b, hb, rfl⟩)
    refine ⟨a, bs, rfl, hS, fun b hb => ⟨let ⟨_, hd⟩ := (b3 b hb).2; dat_dp gh bh (hok b hb) hd, (ok_shape 60 _ (hok b hb)).2⟩, by rw [em]; exact e4, by rw [em]; exact e5, fun p hp => ?_⟩
    have es : (bs.mergeSort leB).map (·.2) = (bs.map (·.2)).mergeSort leD := List.map_mergeSort fun x _ y _ => rfl
    rw [← es] at k
    exact KQ.floorL gh hp (dts_zip fun b hb => b3 b ((List.mergeSort_perm bs leB).mem_iff.mp hb)) k
  · exact h.elim⟩

/-! ### slices -/
def cutG {α : Type} (xs : List α) (lo hi : Option Int) : List α := (xs.drop (HT.sIx xs.length 0 lo)).take (HT.sIx xs.length xs.length hi - HT.sIx xs.length 0 lo)
def slV (x : D) (lo hi : Option Int) : Out Exn D := match x with
  | .lst _ ds => .ok (.lst .new (cutG ds lo hi))
  | .tup ds => .ok (.tup (cutG ds lo hi))
  | .str z => if z.length ≤ sizeLine then .ok (.str (cutS z lo hi)) else .no
  | _ => .no
abbrev rSlU (K : PySem.W.Frag) : V → Option Int → Option Int → Hp → VK → Prop := fun x lo hi H Q => rSlL K x lo hi H Q ∨ rSlA K x lo hi H Q ∨ rSlS x lo hi H Q
theorem sl_U : SlR X (rSlU X.K) := sl_list.or (sl_tupA.or sl_str)
theorem v_sl : VSl K (rSlU K) slV := ⟨fun G B H x dx lo hi R gh bh hd h => by
  unfold slV at h
  split at h
  · obtain ⟨a, vs, rfl, hL, hs⟩ := dt_lst gh bh hd
    refine .inl ⟨a, vs, rfl, hL, fun p hp => KQ.floorL gh hp ?_ h⟩
    unfold cutV cutG
    rw [hs.length]
    exact (hs.drop _).take _
  · rename_i ds
    obtain ⟨a, vs, rfl, hT, _, hs⟩ := dt_tup gh hd
    have hl := hs.length
    refine .inr (.inl ⟨a, vs, rfl, hT, fun hw => ?_, fun _ p hp => KQ.floorT gh hp ?_ h⟩)
    · have : cutG ds lo hi = ds := by
        unfold cutG
        rw [← hl, hw.1, hw.2, List.drop_zero, Nat.sub_zero, hl, List.take_length]
      rw [this] at h
      exact KQ.given gh h hd (Fresh.of (by simp [D.root]))
    · unfold cutV cutG
      rw [hl]
      exact (hs.drop _).take _
  · obtain ⟨hz, k⟩ := out_if h
    exact .inr (.inr ⟨_, dt_str hd, hz, kq_s gh k⟩)
  · exact h.elim⟩
def qRevL (fa : FQ) : FQ := fun ρ => (fa ρ).bind fun d => match d with
  | .lst _ ds => .ok (.lst .new ds.reverse)
  | _ => .no
theorem qe_revL {W : WX} {e : Expr} {fa : FQ} {k : Nat} {p1 p2 p3 pos : Pos} (he : QE X W e fa) : QE X W (.Subscript e (.Slice none none (some (.UnaryOp .USub (.Constant (.int 1) k p1) p2)) p3) pos) (qRevL fa) :=
  peI (pe_revL he) fun σ H R ⟨G, B, As, ρ, so, q⟩ => upQ_bind so q fun d G1 H1 v e1 hd fr q1 => by
    cases d with
    | lst f ds =>
      obtain ⟨a, vs, rfl, hL, hs⟩ := dt_lst e1.gh (so.ext e1).bh hd
      exact ⟨a, vs, rfl, hL, fun p hp => KQ.floorL e1.gh hp hs.reverse ((show KQ X.K G B H R _ from q1).ext e1)⟩
    | _ => exact q1.elim

/-! ### texts -/
def splitV : D → List D → Out Exn D
  | .str a, [.str b] => if b.length ≠ 0 ∧ a.length + 2 ≤ sizeLine then .ok (.lst .new ((Txt.split a b).map .str)) else .no
  | _, _ => .no
theorem v_split : Vm K (fun x xs H Q => ∃ a b, x = .str a ∧ xs = [.str b] ∧ (b.length == 0) = false ∧ a.length + 2 ≤ sizeLine ∧ rNewStrs (Txt.split a b) H Q) splitV := ⟨fun G B H x dx xs ds R gh bh d1 d2 h => by
  unfold splitV at h
  split at h
  · obtain ⟨v, rfl, hv⟩ := dts1 d2
    obtain ⟨⟨c1, c2⟩, k⟩ := out_if h
    exact ⟨_, _, dt_str d1, by rw [dt_str hv], by simpa using c1, c2, fun p hp => KQ.floorL gh hp (strs_dt _) k⟩
  · exact h.elim⟩
def joinV : D → List D → Out Exn D
  | .str a, [.lst _ ds] => ofO ((strsD ds).bind fun ys => if (ys.map (·.length)).sum + ys.length * a.length ≤ 16777216 then some (.str (Txt.join a ys)) else none)
  | _, _ => .no
theorem v_join : Vm K (fun x xs H Q => ∃ a p, ∃ ys : List Str, x = .str a ∧ xs = [.ref p] ∧ (SqL K H p (ys.map V.str) ∨ SqT K H p (ys.map V.str)) ∧ (ys.map (·.length)).sum + ys.length * a.length ≤ 16777216 ∧ Q (.str (Txt.join a ys)) H) joinV := ⟨fun G B H x dx xs ds R gh bh d1 d2 h => by
  unfold joinV at h
  split at h
  · obtain ⟨v, rfl, hv⟩ := dts1 d2
    obtain ⟨e, eq0, k⟩ := out_opt h
    obtain ⟨ys, e1, e2⟩ := Option.bind_eq_some_iff.mp eq0
    split at e2
    · rename_i hc
      cases e2
      obtain ⟨p, vs, rfl, hp, hs⟩ := dt_lst gh bh hv
      have := strs_dts hs e1
      subst this
      exact ⟨_, p, ys, dt_str d1, rfl, .inl hp, hc, kq_s gh k⟩
    · cases e2
  · exact h.elim⟩
def partV : D → List D → Out Exn D
  | .str a, [.str b] => if b.length ≠ 0 ∧ a.length ≤ sizeLine then .ok (.tup [.str (Txt.partition a b).1, .str (Txt.partition a b).2.1, .str (Txt.partition a b).2.2]) else .no
  | _, _ => .no
theorem v_part : Vm K (fun x xs H Q => ∃ a b, x = .str a ∧ xs = [.str b] ∧ (b.length == 0) = false ∧ a.length ≤ sizeLine ∧ ∀ p, H p = none → Q (.ref p) (upd H p (.tup [.str (Txt.partition a b).1, .str (Txt.partition a b).2.1, .str (Txt.partition a b).2.2]))) partV := ⟨fun G B H x dx xs ds R gh bh d1 d2 h => by
  unfold partV at h
  split at h
  · obtain ⟨v, rfl, hv⟩ := dts1 d2
    obtain ⟨⟨c1, c2⟩, k⟩ := out_if h
    exact ⟨_, _, dt_str d1, by rw [dt_str hv], by simpa using c1, c2, fun p hp => KQ.floorT gh hp (strs_dt [_, _, _]) k⟩
  · exact h.elim⟩
end

/-! ### len(set(xs)), xs a list of tuples of texts -/
theorem calm_str {P : Program} {w : World} : SG.Calm (PySem.strKind P w) := ⟨fun n k v h => by
  obtain ⟨t, rfl⟩ := Value.isStrOf_shape h
  cases n <;> rfl, fun n k v h => by
  obtain ⟨t, rfl⟩ := Value.isStrOf_shape h
  exact ⟨false, by cases n <;> rfl⟩⟩
theorem items_strs {P : Program} {w : World} : ∀ {k : List Str} {us : List Value}, Vals (k.map V.str) us → ItemsAre (PySem.strKind P w) k us
  | [], _, h => by cases h; exact .nil
  | x :: k, _, h => by
    cases h with
    | cons h1 t =>
      obtain ⟨tk, rfl⟩ := h1
      exact .cons (by show (x == x) = true; simp) (items_strs t)
theorem refs_rows : ∀ {rows : List (Addr × List Str)} {us : List Value}, Vals (rows.map fun e => V.ref e.1) us → us = rows.map fun e => Value.ref e.1
  | [], _, h => by cases h; rfl
  | e :: rows, _, h => by
    cases h with
    | cons h1 t =>
      rw [List.map_cons, ← refs_rows t]
      exact congrArg (· :: _) h1
section
variable {X : Cx} {W : WX}
theorem inv_tup {pins : List (Addr × Obj)} {σ : L2.St} {H : Hp} {s : Shared} {b : Addr} {k : List Str} (I : Inv X pins σ H s) (h : SqT X.K H b (k.map V.str)) : SG.Tp (PySem.strKind X.prog X.w) s.heap k b := by
  obtain ⟨its, r, ⟨o, ho, hc, n, hd⟩, _⟩ := I.tuple h
  exact ⟨o, its.toArray, n, ho, hc, hd, by simpa using items_strs r⟩
def tLenSet (K : PySem.W.Frag) (ta : TE) : TE := fun σ H Q => ta σ H fun x H1 => ∃ (l : Addr) (rows : List (Addr × List Str)), x = V.ref l ∧ SqL K H1 l (rows.map fun e => V.ref e.1) ∧ (∀ e ∈ rows, SqT K H1 e.1 (e.2.map V.str)) ∧ rows.length < 64 ∧
  ∀ ls : List (List Str), ls.Nodup → (∀ k, k ∈ ls ↔ k ∈ rows.map Prod.snd) → Q (.int ls.length) H1
theorem pe_lenSet {a : Expr} {ta : TE} {p p2 q pos : Pos} (calm : X.calm = true) (hu : X.A.units + 65 < cLine) (lm : X.mg "len" = none) (sm : X.mg "set" = none) (ha : PE X a ta) (lg : Gl X "len" := by rfl) (sg : Gl X "set" := by rfl)
    (one : starEach [a] X.env = (false, eval a X.env) :: starEach [] X.env := by rfl) : PE X (.Call (.Name "len" p) [.Call (.Name "set" p2) [a] [] q] [] pos) (tLenSet X.K ta) := by
  constructor
  intro pins s σ H Q I h
  refine Call_ (ld_blt I lg lm PySem.boot_len (PyProof.Rows.callWith_builtin1 (PyProof.Rows.args_cons (Call_ (ld_blt I sg sm PyProof.Rows.boot_set ?_)) rfl) rfl rfl))
  refine PyProof.Rows.callWith_type1 (PyProof.Rows.args_cons (thn (ha.run pins s σ H _ I h) fun v s1 ⟨x, H1, I1, r1, h1⟩ => PyProof.Rows.args_nil ?_) one) one rfl
  obtain ⟨l, rows, ex, hL, hT, few, h1⟩ := h1
  subst ex
  cases r1
  obtain ⟨its, r, pl, hz⟩ := I1.list hL
  refine SG.set_of (kd := PySem.strKind X.prog X.w) calm_str rows (I1.ok.hd calm) pl.isList (by simpa using refs_rows r) (fun e he => inv_tup I1 (hT e he)) few (by omega) fun h' tk L es ep t S g keep => ?_
  refine PyProof.Rows.args_nil ?_
  obtain ⟨o, get, ex, dat⟩ := S.obj
  have I2 : Inv X pins σ H1 { s1 with heap := h', toks := tk } := I1.kept keep
  have size := SG.ent_size S.lst
  have c := S.cap.2
  refine call_len_set get ex dat (SG.St.fits (s := { s1 with heap := h', toks := tk }) S) (by omega) ⟨.int es.size, H1, I2.tok _, ⟨_, rfl⟩, ?_⟩
  have := h1 (L.map Prod.snd) S.inj fun k => by
    constructor
    · intro hk
      obtain ⟨e, he, rfl⟩ := List.mem_map.mp hk
      exact List.mem_map.mpr ⟨e, List.mem_of_mem_take (g.only e he), rfl⟩
    · intro hk
      obtain ⟨e, he, rfl⟩ := List.mem_map.mp hk
      exact g.each e (by rw [List.take_length]; exact he)
  rw [List.length_map, ← size] at this
  exact this
def tupS (m : List Str) : D := .tup (m.map D.str)
def tupsD : List D → Option (List (List Str))
  | [] => some []
  | .tup ds :: r => match strsD ds, tupsD r with
    | some m, some ms => some (m :: ms)
    | _, _ => none
  | _ :: _ => none
theorem tupsD_map (ms : List (List Str)) : tupsD (ms.map tupS) = some ms := by
  induction ms with
  | nil => rfl
  | cons m ms ih =>
    show (match strsD (m.map D.str), tupsD (ms.map tupS) with | some m, some ms => some (m :: ms) | _, _ => none) = _
    rw [strsD_map, ih]
/-- each once -/
def distinct {α : Type} [DecidableEq α] : List α → List α
  | [] => []
  | a :: r => if a ∈ r then distinct r else a :: distinct r
theorem mem_distinct {α : Type} [DecidableEq α] {k : α} : ∀ {xs : List α}, k ∈ distinct xs ↔ k ∈ xs
  | [] => by simp [distinct]
  | a :: r => by
    unfold distinct
    by_cases h : a ∈ r
    · rw [if_pos h, mem_distinct (xs := r)]
      exact ⟨fun z => List.mem_cons_of_mem _ z, fun z => by
        rcases List.mem_cons.mp z with rfl | z
        · exact h
        · exact z⟩
    · rw [if_neg h, List.mem_cons, List.mem_cons, mem_distinct (xs := r)]
theorem nodup_distinct {α : Type} [DecidableEq α] : ∀ {xs : List α}, (distinct xs).Nodup
  | [] => by simp [distinct]
  | a :: r => by
    unfold distinct
    by_cases h : a ∈ r
    · rw [if_pos h]; exact nodup_distinct
    · rw [if_neg h, List.nodup_cons]
      exact ⟨fun z => h (mem_distinct.mp z), nodup_distinct⟩
theorem distinct_id {α : Type} [DecidableEq α] : ∀ {xs : List α}, xs.Nodup → distinct xs = xs
  | [], _ => rfl
  | a :: r, h => by
    rw [List.nodup_cons] at h
    unfold distinct
    rw [if_neg h.1, distinct_id h.2]
theorem distinct_len {α : Type} [DecidableEq α] : ∀ {xs : List α}, (distinct xs).length ≤ xs.length ∧ ((distinct xs).length = xs.length ↔ xs.Nodup)
  | [] => by simp [distinct]
  | a :: r => by
    obtain ⟨h1, h2⟩ := distinct_len (xs := r)
    unfold distinct
    by_cases h : a ∈ r
    · rw [if_pos h, List.length_cons, List.nodup_cons]
      refine ⟨by omega, ⟨fun z => by omega, fun z => absurd h z.1⟩⟩
    · rw [if_neg h, List.length_cons, List.length_cons, List.nodup_cons]
      exact ⟨by omega, ⟨fun z => ⟨h, h2.mp (by omega)⟩, fun z => by rw [h2.mpr z.2]⟩⟩
def qLenSet (fa : FQ) : FQ := fun ρ => (fa ρ).bind fun d => match d with
  | .lst _ ds => ofO ((tupsD ds).bind fun ks => if ks.length < 64 then some (.int ((distinct ks).length : Nat)) else none)
  | _ => .no
theorem rows_dts {K : PySem.W.Frag} {G B H : Hp} (gh : Same G H) : ∀ {vs : List V} {ds : List D} {ks : List (List Str)}, Dts K G B H vs ds → tupsD ds = some ks → ∃ rows : List (Addr × List Str), vs = rows.map (fun e => V.ref e.1) ∧ rows.map Prod.snd = ks ∧ ∀ e ∈ rows, SqT K H e.1 (e.2.map V.str)
  | [], [], _, _, e => by cases e; exact ⟨[], rfl, rfl, fun e he => nomatch he⟩
  | [], d :: ds, _, h, _ => by have := h.length; simp at this
  | v :: vs, [], _, h, _ => by have := h.length; simp at this
  | v :: vs, d :: ds, ks, h, e => by
    obtain ⟨_, hh, t⟩ := h.uncons
    cases d with
    | tup xs =>
      simp only [tupsD] at e
      cases e1 : strsD xs with
      | none => rw [e1] at e; cases e
      | some m =>
        cases e2 : tupsD ds with
        | none => rw [e1, e2] at e; cases e
        | some ms =>
          rw [e1, e2] at e
          cases e
          obtain ⟨rows, rfl, rfl, e3⟩ := rows_dts gh t e2
          obtain ⟨a, us, rfl, e5, _, e6⟩ := dt_tup gh hh
          have e7 := strs_dts e6 e1
          subst e7
          exact ⟨(a, m) :: rows, rfl, rfl, fun e he => by
            rcases List.mem_cons.mp he with q | q
            · subst q; exact e5
            · exact e3 e q⟩
    | _ => cases e
theorem nodup_len {α : Type} [DecidableEq α] {a b : List α} (ha : a.Nodup) (hb : b.Nodup) (h : ∀ k, k ∈ a ↔ k ∈ b) : a.length = b.length := ((List.perm_ext_iff_of_nodup ha hb).mpr h).length_eq
theorem qe_lenSet {a : Expr} {fa : FQ} {p p2 q pos : Pos} (calm : X.calm = true) (hu : X.A.units + 65 < cLine) (lm : X.mg "len" = none) (sm : X.mg "set" = none) (ha : QE X W a fa) (lg : Gl X "len" := by rfl) (sg : Gl X "set" := by rfl)
    (one : starEach [a] X.env = (false, eval a X.env) :: starEach [] X.env := by rfl) : QE X W (.Call (.Name "len" p) [.Call (.Name "set" p2) [a] [] q] [] pos) (qLenSet fa) :=
  peI (pe_lenSet calm hu lm sm ha lg sg one) fun σ H R ⟨G, B, As, ρ, so, q⟩ => upQ_bind so q fun d G1 H1 v e1 hd fr q1 => by
    cases d with
    | lst f ds =>
      obtain ⟨e, eq0, k⟩ := out_opt q1
      obtain ⟨ks, e2, e3⟩ := Option.bind_eq_some_iff.mp eq0
      split at e3
      · rename_i hc
        cases e3
        obtain ⟨l, vs, rfl, hL, hs⟩ := dt_lst e1.gh (so.ext e1).bh hd
        obtain ⟨rows, r1, r2, r3⟩ := rows_dts e1.gh hs e2
        subst r1 r2
        refine ⟨l, rows, rfl, hL, r3, by simpa using hc, fun ls nd iff => ?_⟩
        have : ls.length = (distinct (rows.map Prod.snd)).length := nodup_len nd nodup_distinct fun k => by rw [iff, mem_distinct]
        rw [this]
        exact kq_int e1.gh (k.ext e1)
      · cases e3
    | _ => exact q1.elim
end
end VL

/-! VLh: places, and what changes them. -/
namespace VL
open PySem PySem.Spec PyProof.Rows L2

abbrev Pi := Sum Nat Nat
/-- locked by a walk -/
def HO.free (o : HO) : Prop := ∀ ob u, o ≠ .frz ob u
/-- the places hold trees; what they own stands apart -/
structure VRep (K : PySem.W.Frag) (G B Φ H : Hp) (As : List V) (S : Pi → List Addr) (σ : L2.St) (ρ : Plc) : Prop where
  gh : Same G H
  bp : Same B Φ
  ph : Same Φ H
  dis : ∀ a o, Φ a = some o → G a = none
  len : ρ.s.length = σ.length
  alen : ρ.a.length = As.length
  slot : ∀ (i : Nat) (d : D), ρ.s[i]? = some (Sl.val d) → d.old ∧ ∃ v, σ[i]? = some (some v) ∧ Dat K G B H (S (.inl i)) v d
  arg : ∀ (i j : Nat), ρ.s[i]? = some (Sl.arg j) → ∃ v, σ[i]? = some (some v) ∧ As[j]? = some v
  ar : ∀ (j : Nat) (d : D), ρ.a[j]? = some (some d) → d.old ∧ ∃ v, As[j]? = some v ∧ Dat K G B H (S (.inr j)) v d
  nd : ∀ i, (S i).Nodup
  dj : ∀ i j a, i ≠ j → a ∈ S i → a ∉ S j
  fr : ∀ i a, a ∈ S i → G a = none ∧ Φ a = none ∧ ∃ o, H a = some o ∧ HO.free o
/-- a value in no place yet: what it owns -/
def TOk (T : List Addr) (S : Pi → List Addr) (G Φ H : Hp) : Prop := T.Nodup ∧ ∀ a ∈ T, (∀ i, a ∉ S i) ∧ G a = none ∧ Φ a = none ∧ ∃ o, H a = some o ∧ HO.free o
theorem TOk.nil {S : Pi → List Addr} {G Φ H : Hp} : TOk [] S G Φ H := ⟨.nil, fun a m => by cases m⟩
section
variable {K : PySem.W.Frag} {G B Φ H G' H' : Hp} {As : List V} {S : Pi → List Addr} {σ : L2.St} {ρ : Plc}
theorem VRep.so (r : VRep K G B Φ H As S σ ρ) : SOk K G B H As σ ρ :=
  ⟨r.gh, fun a o e => r.ph a o (r.bp a o e), r.len, fun i d e => let ⟨n, v, h1, h2⟩ := r.slot i d e; ⟨n, v, h1, _, h2⟩, r.arg, fun j d e => let ⟨n, v, h1, h2⟩ := r.ar j d e; ⟨n, v, h1, _, h2⟩⟩
theorem VRep.ext (r : VRep K G B Φ H As S σ ρ) (e : Ext G H G' H') : VRep K G' B Φ H' As S σ ρ where
  gh := e.gh
  bp := r.bp
  ph := fun a o q => e.h a o (r.ph a o q)
  dis := fun a o q => by
    cases z : G' a with
    | none => rfl
    | some u =>
      rcases e.new a u z with z | z
      · rw [r.dis a o q] at z; cases z
      · rw [r.ph a o q] at z; cases z
  len := r.len
  alen := r.alen
  slot := fun i d q => let ⟨n, v, h1, h2⟩ := r.slot i d q; ⟨n, v, h1, h2.mono e.g (fun _ _ q => q) (On.of e.h)⟩
  arg := r.arg
  ar := fun i d q => let ⟨n, v, h1, h2⟩ := r.ar i d q; ⟨n, v, h1, h2.mono e.g (fun _ _ q => q) (On.of e.h)⟩
  nd := r.nd
  dj := r.dj
  fr := fun i a m => by
    obtain ⟨h1, h2, o, h3, h4⟩ := r.fr i a m
    refine ⟨?_, h2, o, e.h a o h3, h4⟩
    cases z : G' a with
    | none => rfl
    | some u =>
      rcases e.new a u z with z | z
      · rw [h1] at z; cases z
      · rw [h3] at z; cases z
/-- other regions -/
def setS (S : Pi → List Addr) (i : Pi) (T : List Addr) : Pi → List Addr := fun j => if j = i then T else S j
theorem setS_same {i : Pi} {T : List Addr} : setS S i T i = T := by simp [setS]
theorem setS_ne {i j : Pi} {T : List Addr} (h : j ≠ i) : setS S i T j = S j := by simp [setS, h]
def Plc.setS (ρ : Plc) (i : Nat) (x : Sl) : Plc := ⟨ρ.s.set i x, ρ.a⟩
def Plc.setA (ρ : Plc) (j : Nat) (d : Option D) : Plc := ⟨ρ.s, ρ.a.set j d⟩
/-- a slot is set to a value in no place yet -/
theorem VRep.set {T : List Addr} {i : Nat} {v : V} {d : D} (r : VRep K G B Φ H As S σ ρ) (hd : Dat K G B H T v d) (n : d.old) (t : TOk T S G Φ H) : VRep K G B Φ H As (VL.setS S (.inl i) T) (σ.set i (some v)) (ρ.setS i (.val d)) where
  gh := r.gh
  bp := r.bp
  ph := r.ph
  dis := r.dis
  len := by simp [Plc.setS, r.len]
  alen := r.alen
  slot := fun j e q => by
    simp only [Plc.setS, List.getElem?_set] at q
    by_cases hij : i = j
    · subst hij
      by_cases hl : i < ρ.s.length
      · rw [if_pos rfl, if_pos hl] at q
        cases q
        exact ⟨n, v, by rw [List.getElem?_set, if_pos rfl, if_pos (by rw [← r.len]; exact hl)], by rw [setS_same]; exact hd⟩
      · rw [if_pos rfl, if_neg hl] at q; cases q
    · rw [if_neg hij] at q
      obtain ⟨n', w, h1, h2⟩ := r.slot j e q
      exact ⟨n', w, by rw [List.getElem?_set, if_neg hij]; exact h1, by rw [setS_ne (by simpa using Ne.symm hij)]; exact h2⟩
  arg := fun j k q => by
    simp only [Plc.setS, List.getElem?_set] at q
    by_cases hij : i = j
    · subst hij
      by_cases hl : i < ρ.s.length
      · rw [if_pos rfl, if_pos hl] at q; cases q
      · rw [if_pos rfl, if_neg hl] at q; cases q
    · rw [if_neg hij] at q
      obtain ⟨w, h1, h2⟩ := r.arg j k q
      exact ⟨w, by rw [List.getElem?_set, if_neg hij]; exact h1, h2⟩
  ar := fun j e q => by
    obtain ⟨n', w, h1, h2⟩ := r.ar j e q
    exact ⟨n', w, h1, by rw [setS_ne (by simp)]; exact h2⟩
  nd := fun j => by
    by_cases h : j = .inl i
    · subst h; rw [setS_same]; exact t.1
    · rw [setS_ne h]; exact r.nd j
  dj := fun j k a hne hj hk => by
    by_cases h1 : j = .inl i
    · subst h1
      rw [setS_same] at hj
      rw [setS_ne (Ne.symm hne)] at hk
      exact (t.2 a hj).1 k hk
    · rw [setS_ne h1] at hj
      by_cases h2 : k = .inl i
      · subst h2
        rw [setS_same] at hk
        exact (t.2 a hk).1 j hj
      · rw [setS_ne h2] at hk
        exact r.dj j k a hne hj hk
  fr := fun j a m => by
    by_cases h : j = .inl i
    · subst h; rw [setS_same] at m; exact (t.2 a m).2
    · rw [setS_ne h] at m; exact r.fr j a m
/-- a slot is forgotten; what it owned is in no place -/
theorem VRep.drop {i : Nat} {x : Option V} (r : VRep K G B Φ H As S σ ρ) : VRep K G B Φ H As (VL.setS S (.inl i) []) (σ.set i x) (ρ.setS i .no) where
  gh := r.gh
  bp := r.bp
  ph := r.ph
  dis := r.dis
  len := by simp [Plc.setS, r.len]
  alen := r.alen
  slot := fun j e q => by
    simp only [Plc.setS, List.getElem?_set] at q
    by_cases hij : i = j
    · subst hij
      by_cases hl : i < ρ.s.length
      · rw [if_pos rfl, if_pos hl] at q; cases q
      · rw [if_pos rfl, if_neg hl] at q; cases q
    · rw [if_neg hij] at q
      obtain ⟨n', w, h1, h2⟩ := r.slot j e q
      exact ⟨n', w, by rw [List.getElem?_set, if_neg hij]; exact h1, by rw [setS_ne (by simpa using Ne.symm hij)]; exact h2⟩
  arg := fun j k q => by
    simp only [Plc.setS, List.getElem?_set] at q
    by_cases hij : i = j
    · subst hij
      by_cases hl : i < ρ.s.length
      · rw [if_pos rfl, if_pos hl] at q; cases q
      · rw [if_pos rfl, if_neg hl] at q; cases q
    · rw [if_neg hij] at q
      obtain ⟨w, h1, h2⟩ := r.arg j k q
      exact ⟨w, by rw [List.getElem?_set, if_neg hij]; exact h1, h2⟩
  ar := fun j e q => by
    obtain ⟨n', w, h1, h2⟩ := r.ar j e q
    exact ⟨n', w, h1, by rw [setS_ne (by simp)]; exact h2⟩
  nd := fun j => by
    by_cases h : j = .inl i
    · subst h; rw [setS_same]; exact .nil
    · rw [setS_ne h]; exact r.nd j
  dj := fun j k a hne hj hk => by
    by_cases h1 : j = .inl i
    · subst h1; rw [setS_same] at hj; cases hj
    · rw [setS_ne h1] at hj
      by_cases h2 : k = .inl i
      · subst h2; rw [setS_same] at hk; cases hk
      · rw [setS_ne h2] at hk
        exact r.dj j k a hne hj hk
  fr := fun j a m => by
    by_cases h : j = .inl i
    · subst h; rw [setS_same] at m; cases m
    · rw [setS_ne h] at m; exact r.fr j a m
theorem set_self {α : Type} {l : List α} {i : Nat} {x : α} (h : l[i]? = some x) : l.set i x = l := by
  apply List.ext_getElem?
  intro j
  rw [List.getElem?_set]
  by_cases hij : i = j
  · subst hij
    rw [if_pos rfl, if_pos (List.getElem?_eq_some_iff.mp h).1, h]
  · rw [if_neg hij]
/-- the value of a slot leaves it -/
theorem VRep.take {i : Nat} {d : D} (r : VRep K G B Φ H As S σ ρ) (h : ρ.s[i]? = some (.val d)) : ∃ v, σ[i]? = some (some v) ∧ d.old ∧ Dat K G B H (S (.inl i)) v d ∧ VRep K G B Φ H As (VL.setS S (.inl i) []) σ (ρ.setS i .no) ∧ TOk (S (.inl i)) (VL.setS S (.inl i) []) G Φ H := by
  obtain ⟨n, v, h1, h2⟩ := r.slot i d h
  refine ⟨v, h1, n, h2, ?_, r.nd _, fun a m => ⟨fun j q => ?_, r.fr _ a m⟩⟩
  · have := r.drop (i := i) (x := some v)
    rw [set_self h1] at this
    exact this
  · by_cases hj : j = .inl i
    · subst hj; rw [setS_same] at q; cases q
    · rw [setS_ne hj] at q
      exact r.dj _ _ a (Ne.symm hj) m q
/-- what is owned is settled -/
noncomputable def more (G H : Hp) (T : List Addr) : Hp := fun a => if a ∈ T then H a else G a
theorem more_same {T : List Addr} (h : ∀ a ∈ T, G a = none) : Same G (more G H T) := fun a o e => by
  unfold more
  split
  · rename_i m; rw [h a m] at e; cases e
  · exact e
theorem more_at {T : List Addr} {a : Addr} (m : a ∈ T) : more G H T a = H a := by simp [more, m]
theorem dat_fz {T : List Addr} {v : V} {d : D} (hd : Dat K G B H T v d) (h : ∀ a ∈ T, G a = none) : Dat K (more G H T) B H' [] v d.fz := by
  refine Dat.turn (more_same h) (fun p vs q => q.imp id (more_same h).seq) rfl (fun f => by cases f <;> simp [fzF]) (fun f p o n m => ?_) hd
  cases f with
  | own => exact ⟨by show more G H T p = some o; rw [more_at (m p (by simp [Fl.ad]))]; exact n, rfl⟩
  | new => exact ⟨by show more G H T p = some o; rw [more_at (m p (by simp [Fl.ad]))]; exact n, rfl⟩
  | frz => exact ⟨more_same h p o n, rfl⟩
  | bor => exact ⟨n.imp id (more_same h p o), rfl⟩
  | loc => exact n.elim
theorem fz_old (d : D) : d.fz.old := root_mapF (fun f => by cases f <;> simp [fzF]) d
theorem VRep.more {T : List Addr} (r : VRep K G B Φ H As S σ ρ) (t : TOk T S G Φ H) : VRep K (more G H T) B Φ H As S σ ρ := by
  have s : Same G (VL.more G H T) := more_same fun a m => (t.2 a m).2.1
  refine ⟨fun a o e => ?_, r.bp, r.ph, fun a o e => ?_, r.len, r.alen, fun i d q => let ⟨n, v, h1, h2⟩ := r.slot i d q; ⟨n, v, h1, h2.mono s (fun _ _ q => q) (On.of fun _ _ q => q)⟩, r.arg, fun i d q => let ⟨n, v, h1, h2⟩ := r.ar i d q; ⟨n, v, h1, h2.mono s (fun _ _ q => q) (On.of fun _ _ q => q)⟩, r.nd, r.dj, fun i a m => ?_⟩
  · unfold VL.more at e
    split at e
    · exact e
    · exact r.gh a o e
  · unfold VL.more
    split
    · rename_i m
      rw [(t.2 a m).2.2.1] at e; cases e
    · exact r.dis a o e
  · obtain ⟨h1, h2, h3⟩ := r.fr i a m
    refine ⟨?_, h2, h3⟩
    unfold VL.more
    split
    · rename_i q
      exact absurd m ((t.2 a q).1 i)
    · exact h1
end

/-! ### the reading of what changes places -/
abbrev FG := Plc → Out (Exn × Plc) (D × Plc)
abbrev FGT := Plc → Out (Exn × Plc) (Bool × Plc)
abbrev FGA := Plc → Out (Exn × Plc) (List D × Plc)
/-- all that goes on from here -/
def GX (K : PySem.W.Frag) (W : WX) (G B Φ : Hp) (As : List V) (σ : L2.St) (x : Exn × Plc) : Prop := ∀ G' H' S' cls dx, Same G G' → VRep K G' B Φ H' As S' σ x.2 → ExnR K G' B H' x.1 cls dx → W cls dx σ H'
def GK (K : PySem.W.Frag) (G B Φ : Hp) (As : List V) (σ : L2.St) (R : VK) (x : D × Plc) : Prop := ∀ G' H' S' v T, Same G G' → VRep K G' B Φ H' As S' σ x.2 → Dat K G' B H' T v x.1 → x.1.old → TOk T S' G' Φ H' → R v H'
def GKT (K : PySem.W.Frag) (G B Φ : Hp) (As : List V) (σ : L2.St) (R : Bool → Hp → Prop) (x : Bool × Plc) : Prop := ∀ G' H' S', Same G G' → VRep K G' B Φ H' As S' σ x.2 → R x.1 H'
/-- arguments: settled ones -/
def GKA (K : PySem.W.Frag) (G B Φ : Hp) (As : List V) (σ : L2.St) (R : List V → Hp → Prop) (x : List D × Plc) : Prop := ∀ G' H' S' vs, Same G G' → VRep K G' B Φ H' As S' σ x.2 → Dats K G' B H' [] vs x.1 → R vs H'
section
variable {K : PySem.W.Frag} {W : WX} {G B Φ G1 : Hp} {As : List V} {σ : L2.St}
theorem GX.mono {x : Exn × Plc} (s : Same G G1) (h : GX K W G B Φ As σ x) : GX K W G1 B Φ As σ x := fun G' H' S' cls dx s' => h G' H' S' cls dx (s.trans s')
theorem GK.mono {R : VK} {x : D × Plc} (s : Same G G1) (h : GK K G B Φ As σ R x) : GK K G1 B Φ As σ R x := fun G' H' S' v T s' => h G' H' S' v T (s.trans s')
theorem GKT.mono {R : Bool → Hp → Prop} {x : Bool × Plc} (s : Same G G1) (h : GKT K G B Φ As σ R x) : GKT K G1 B Φ As σ R x := fun G' H' S' s' => h G' H' S' (s.trans s')
theorem GKA.mono {R : List V → Hp → Prop} {x : List D × Plc} (s : Same G G1) (h : GKA K G B Φ As σ R x) : GKA K G1 B Φ As σ R x := fun G' H' S' vs s' => h G' H' S' vs (s.trans s')
end
def upG (K : PySem.W.Frag) (W : WX) (f : FG) : TE := fun σ H R => ∃ (G B Φ : Hp) (As : List V) (S : Pi → List Addr) (ρ : Plc), VRep K G B Φ H As S σ ρ ∧ (f ρ).P (GK K G B Φ As σ R) (GX K W G B Φ As σ)
def upGT (K : PySem.W.Frag) (W : WX) (f : FGT) : TT := fun σ H R => ∃ (G B Φ : Hp) (As : List V) (S : Pi → List Addr) (ρ : Plc), VRep K G B Φ H As S σ ρ ∧ (f ρ).P (GKT K G B Φ As σ R) (GX K W G B Φ As σ)
def upGA (K : PySem.W.Frag) (W : WX) (f : FGA) : TA := fun σ H R => ∃ (G B Φ : Hp) (As : List V) (S : Pi → List Addr) (ρ : Plc), VRep K G B Φ H As S σ ρ ∧ (f ρ).P (GKA K G B Φ As σ R) (GX K W G B Φ As σ)
abbrev GE (X : Cx) (W : WX) (e : Expr) (f : FG) : Prop := PE X e (upG X.K W f)
abbrev GT (X : Cx) (W : WX) (e : Expr) (f : FGT) : Prop := PT X e (upGT X.K W f)
abbrev GW (X : Cx) (W : WX) (e : Expr) (f : FGT) : Prop := PW X e (upGT X.K W f)
abbrev GA (X : Cx) (W : WX) (es : List Expr) (f : FGA) : Prop := PA X es (upGA X.K W f)

/-! ### quiet ones as such -/
/-- a new root is owned from now on -/
def D.up : D → D
  | .lst .new xs => .lst .own xs
  | .dic .new xs => .dic .own xs
  | .dit .new xs => .dit .own xs
  | .obj .new C xs => .obj .own C xs
  | d => d
def D.free : D → Bool
  | .lst .new xs => D.allFL ownF xs
  | .dic .new xs => D.allFK ownF xs
  | .dit .new xs => D.allFK ownF xs
  | .obj .new _ xs => D.allFK ownF xs
  | d => d.noOwn
theorem up_old (d : D) : d.up.old := by
  cases d with
  | lst f _ => cases f <;> simp [D.up, D.root]
  | dic f _ => cases f <;> simp [D.up, D.root]
  | dit f _ => cases f <;> simp [D.up, D.root]
  | obj f _ _ => cases f <;> simp [D.up, D.root]
  | _ => simp [D.up, D.root]
theorem up_id {d : D} (h : d.old) : d.up = d := by
  cases d with
  | lst f _ => cases f <;> first | rfl | exact absurd rfl h
  | dic f _ => cases f <;> first | rfl | exact absurd rfl h
  | dit f _ => cases f <;> first | rfl | exact absurd rfl h
  | obj f _ _ => cases f <;> first | rfl | exact absurd rfl h
  | _ => rfl
theorem free_id {d : D} (h : d.old) : d.free = d.noOwn := by
  cases d with
  | lst f _ => cases f <;> first | rfl | exact absurd rfl h
  | dic f _ => cases f <;> first | rfl | exact absurd rfl h
  | dit f _ => cases f <;> first | rfl | exact absurd rfl h
  | obj f _ _ => cases f <;> first | rfl | exact absurd rfl h
  | _ => rfl
/-- what a quiet expression has laid comes to be owned -/
theorem up_dat {K : PySem.W.Frag} {G B Φ H G1 H1 : Hp} {As : List V} {S : Pi → List Addr} {σ : L2.St} {ρ : Plc} {v : V} {d : D} (r : VRep K G B Φ H As S σ ρ) (e : Ext G H G1 H1) (hd : Dt K G1 B H1 v d) (fr : Fresh H G1 v d) (hf : d.free = true) : ∃ T, Dat K G1 B H1 T v d.up ∧ TOk T S G1 Φ H1 := by
  by_cases ho : d.old
  · rw [up_id ho]
    rw [free_id ho] at hf
    obtain ⟨T, hd⟩ := hd
    have s := hd.noS hf
    subst s
    exact ⟨[], hd, .nil⟩
  · have hr : d.root = some .new := by simpa using ho
    obtain ⟨p, rfl, h1, h2⟩ := fr hr
    have tok : ∀ o, H1 p = some o → HO.free o → TOk [p] S G1 Φ H1 := fun o ho hf => ⟨by simp, fun a m => by
      have : a = p := by simpa using m
      subst this
      refine ⟨fun i q => ?_, h2, ?_, o, ho, hf⟩
      · obtain ⟨_, _, u, z, _⟩ := r.fr i a q
        rw [h1] at z; cases z
      · exact Same.free r.ph h1⟩
    obtain ⟨T, hd⟩ := hd
    cases hd with
    | lst n hs =>
      cases hr
      have s := Dats.noS hs hf
      subst s
      exact ⟨[p], .lst (f := .own) n hs, tok _ n (by intro _ _ z; cases z)⟩
    | dic n hs =>
      cases hr
      have s := DatM.noS hs hf
      subst s
      rcases n with n | ⟨nn, _⟩
      · exact ⟨[p], .dic (f := .own) (.inl n) hs, tok _ n (by intro _ _ z; cases z)⟩
      · exact absurd rfl nn
    | dit n hs =>
      cases hr
      have s := DatM.noS hs hf
      subst s
      rcases n with n | ⟨nn, _⟩
      · exact ⟨[p], .dit (f := .own) (.inl n) hs, tok _ n (by intro _ _ z; cases z)⟩
      · exact absurd rfl nn
    | obj n hs =>
      cases hr
      have s := DatM.noS hs hf
      subst s
      exact ⟨[p], .obj (f := .own) n hs, tok _ n (by intro _ _ z; cases z)⟩
    | _ => cases hr
def gQ (f : FQ) : FG := fun ρ => match f ρ with
  | .ok d => if d.free = true then .ok (d.up, ρ) else .no
  | .ex x => .ex (x, ρ)
  | .no => .no
def gQT (f : FT) : FGT := fun ρ => match f ρ with
  | .ok b => .ok (b, ρ)
  | .ex x => .ex (x, ρ)
  | .no => .no
section
variable {X : Cx} {W : WX} {e : Expr}
theorem EX.of {K : PySem.W.Frag} {G B Φ H : Hp} {As : List V} {S : Pi → List Addr} {σ : L2.St} {ρ : Plc} {x : Exn} (r : VRep K G B Φ H As S σ ρ) (h : GX K W G B Φ As σ (x, ρ)) : EX K W G B H σ x := fun G' H' cls dx e er => h G' H' S cls dx e.g (r.ext e) er
theorem gq_up {K : PySem.W.Frag} {f : FQ} {σ : L2.St} {H : Hp} {R : VK} (h : upG K W (gQ f) σ H R) : upQ K W f σ H R := by
  obtain ⟨G, B, Φ, As, S, ρ, r, q⟩ := h
  refine ⟨G, B, As, ρ, r.so, ?_⟩
  unfold gQ at q
  cases hf : f ρ with
  | no => rw [hf] at q; exact q.elim
  | ex x => rw [hf] at q; exact EX.of r q
  | ok d =>
    rw [hf] at q
    obtain ⟨hfr, k⟩ := Out.P_if q
    intro G1 H1 v e hd fr
    obtain ⟨T, hT, tok⟩ := up_dat r e hd fr hfr
    exact k G1 H1 S v T e.g (r.ext e) hT (up_old d) tok
theorem ge_q {f : FQ} (h : QE X W e f) : GE X W e (gQ f) := peI h fun σ H R q => gq_up q
theorem gqt_up {K : PySem.W.Frag} {f : FT} {σ : L2.St} {H : Hp} {R : Bool → Hp → Prop} (h : upGT K W (gQT f) σ H R) : upQT K W f σ H R := by
  obtain ⟨G, B, Φ, As, S, ρ, r, q⟩ := h
  refine ⟨G, B, As, ρ, r.so, ?_⟩
  unfold gQT at q
  cases hf : f ρ with
  | no => rw [hf] at q; exact q.elim
  | ex x => rw [hf] at q; exact EX.of r q
  | ok d =>
    rw [hf] at q
    exact fun G1 H1 e => q G1 H1 S e.g (r.ext e)
theorem gt_q {f : FT} (h : QT X W e f) : GT X W e (gQT f) := ptI h fun σ H R q => gqt_up q

/-! ### names whose value leaves its slot, or is settled -/
def gMove (i : Nat) : FG := fun ρ => match ρ.s[i]? with
  | some (.val d) => .ok (d, ρ.setS i .no)
  | _ => .no
def gFz (i : Nat) : FG := fun ρ => match ρ.s[i]? with
  | some (.val d) => .ok (d.fz, ρ.setS i (.val d.fz))
  | _ => .no
theorem ge_move {i : Nat} {x : Str} {pos : Pos} (hN : X.N[i]? = some x := by rfl) (hv : Vis X.env.scope x := by first | exact Or.inl rfl | exact Or.inr (Or.inl rfl) | exact Or.inr (Or.inr rfl)) (hd : (x == ("__debug__" : Str)) = false := by decide) (hcd : (x == ("__classdict__" : Str)) = false := by decide) : GE X W (.Name x pos) (gMove i) :=
  peI (pe_var hN hv hd hcd) fun σ H R ⟨G, B, Φ, As, S, ρ, r, q⟩ => by
    unfold gMove at q
    cases hi : ρ.s[i]? with
    | none => rw [hi] at q; exact q.elim
    | some sl =>
      rw [hi] at q
      cases sl with
      | no => exact q.elim
      | arg j => exact q.elim
      | val d =>
        obtain ⟨v, h1, n, h2, r', t⟩ := r.take hi
        exact ⟨v, h1, q G H _ v _ (fun _ _ e => e) r' h2 n t⟩
theorem ge_fz {i : Nat} {x : Str} {pos : Pos} (hN : X.N[i]? = some x := by rfl) (hv : Vis X.env.scope x := by first | exact Or.inl rfl | exact Or.inr (Or.inl rfl) | exact Or.inr (Or.inr rfl)) (hd : (x == ("__debug__" : Str)) = false := by decide) (hcd : (x == ("__classdict__" : Str)) = false := by decide) : GE X W (.Name x pos) (gFz i) :=
  peI (pe_var hN hv hd hcd) fun σ H R ⟨G, B, Φ, As, S, ρ, r, q⟩ => by
    unfold gFz at q
    cases hi : ρ.s[i]? with
    | none => rw [hi] at q; exact q.elim
    | some sl =>
      rw [hi] at q
      cases sl with
      | no => exact q.elim
      | arg j => exact q.elim
      | val d =>
        obtain ⟨v, h1, n, h2, r', t⟩ := r.take hi
        have r2 := r'.more t
        have hd := dat_fz (H' := H) h2 fun a m => (t.2 a m).2.1
        have r3 := r2.set (i := i) hd (fz_old d) .nil
        rw [set_self h1] at r3
        have e2 : (ρ.setS i .no).setS i (.val d.fz) = ρ.setS i (.val d.fz) := by simp [Plc.setS]
        rw [e2] at r3
        exact ⟨v, h1, q _ H _ v [] (more_same fun a m => (t.2 a m).2.1) r3 hd (fz_old d) .nil⟩
end
end VL

/-! VLi: expressions that change places, put together. -/
namespace VL
open PySem PySem.Spec PyProof.Rows L2

def finG (o : Out Exn D) (ρ : Plc) : Out (Exn × Plc) (D × Plc) := match o with
  | .ok d => if d.free = true then .ok (d.up, ρ) else .no
  | _ => .no
section
variable {K : PySem.W.Frag} {G B Φ H : Hp} {As : List V} {S : Pi → List Addr} {σ : L2.St} {ρ : Plc} {R : VK} {W : WX}
/-- what an operator asks, once its operands are there -/
theorem fin_up {o : Out Exn D} (r : VRep K G B Φ H As S σ ρ) (h : (finG o ρ).P (GK K G B Φ As σ R) (GX K W G B Φ As σ)) : o.P (KQ K G B H R) (fun _ => False) := by
  unfold finG at h
  cases o with
  | no => exact h.elim
  | ex x => exact h.elim
  | ok d =>
    obtain ⟨hf, k⟩ := Out.P_if h
    intro G1 H1 v e hd fr
    obtain ⟨T, hT, tok⟩ := up_dat r e hd fr hf
    exact k G1 H1 S v T e.g (r.ext e) hT (up_old d) tok
/-- a value owning nothing stays what it is while places change -/
theorem still {G' H' : Hp} {T : List Addr} {v : V} {d : D} (hd : Dat K G B H T v d) (n : d.noOwn = true) (s : Same G G') : Dt K G' B H' v d := ⟨[], (hd.anyH (H' := H) n).mono s (fun _ _ q => q) (fun a m => by cases m)⟩
theorem bh_of (r : VRep K G B Φ H As S σ ρ) : Same B H := fun a o e => r.ph a o (r.bp a o e)
end
def gUn (f : D → Out Exn D) (ga : FG) : FG := fun ρ => (ga ρ).bind fun x => finG (f x.1) x.2
def gOp (f : D → D → Out Exn D) (ga gb : FG) : FG := fun ρ => (ga ρ).bind fun x => if x.1.noOwn = true then (gb x.2).bind fun y => finG (f x.1 y.1) y.2 else .no
def gCB (f : List D → Out Exn D) (gs : FGA) : FG := fun ρ => (gs ρ).bind fun x => finG (f x.1) x.2
section
variable {X : Cx} {W : WX} {a b c e o : Expr} {es : List Expr} {ga gb : FG} {gs : FGA} {pos p apos : Pos} {x : Str} {id T : String}
theorem Out.P_ifn {ε α : Type} {c : Prop} [Decidable c] {o : Out ε α} {P : α → Prop} {E : ε → Prop} (h : (if c then o else Out.no).P P E) : c ∧ o.P P E := by
  by_cases hc : c
  · rw [if_pos hc] at h; exact ⟨hc, h⟩
  · rw [if_neg hc] at h; exact h.elim
theorem gk_up {K : PySem.W.Frag} {σ : L2.St} {G B Φ H : Hp} {As : List V} {S : Pi → List Addr} {ρ : Plc} {f : FG} {G1 : Hp} {R : VK} (r : VRep K G1 B Φ H As S σ ρ) (s : Same G G1) (q : (f ρ).P (GK K G B Φ As σ R) (GX K W G B Φ As σ)) : upG K W f σ H R :=
  ⟨G1, B, Φ, As, S, ρ, r, Out.P_mono q (fun _ k => k.mono s) fun _ k => k.mono s⟩
theorem gkt_up {K : PySem.W.Frag} {σ : L2.St} {G B Φ H : Hp} {As : List V} {S : Pi → List Addr} {ρ : Plc} {f : FGT} {G1 : Hp} {R : Bool → Hp → Prop} (r : VRep K G1 B Φ H As S σ ρ) (s : Same G G1) (q : (f ρ).P (GKT K G B Φ As σ R) (GX K W G B Φ As σ)) : upGT K W f σ H R :=
  ⟨G1, B, Φ, As, S, ρ, r, Out.P_mono q (fun _ k => k.mono s) fun _ k => k.mono s⟩
theorem up_gop {r : R2} {f : D → D → Out Exn D} (hv : V2 X.K r f) {σ : L2.St} {H : Hp} {R : VK} (h : upG X.K W (gOp f ga gb) σ H R) : tOp r (upG X.K W ga) (upG X.K W gb) σ H R := by
  obtain ⟨G, B, Φ, As, S, ρ, rp, q⟩ := h
  refine ⟨G, B, Φ, As, S, ρ, rp, Out.P_mono (Out.P_bind.mp q) (fun x q1 G1 H1 S1 v T1 s1 r1 hx n1 t1 => ?_) fun _ z => z⟩
  obtain ⟨no, q1⟩ := Out.P_ifn q1
  refine ⟨G1, B, Φ, As, S1, x.2, r1, Out.P_mono (Out.P_bind.mp q1) (fun y q2 G2 H2 S2 w T2 s2 r2 hy n2 t2 => ?_) fun _ z => z.mono s1⟩
  exact hv.go G2 B H2 v w x.1 y.1 R r2.gh (bh_of r2) (still hx no s2) ⟨_, hy⟩ (fin_up r2 (Out.P_mono q2 (fun _ k => k.mono (s1.trans s2)) fun _ k => k.mono (s1.trans s2)))
theorem ge_op {op : Operator} {r : R2} {f : D → D → Out Exn D} (ho : OpR X (binaryOp op) r) (hv : V2 X.K r f) (ha : GE X W a ga) (hb : GE X W b gb) : GE X W (.BinOp a op b pos) (gOp f ga gb) := peI (pe_op ho ha hb) fun _ _ _ h => up_gop hv h
theorem ge_cmp {op : CmpOp} {r : R2} {f : D → D → Out Exn D} (ho : OpR X (compareOp op) r) (hv : V2 X.K r f) (ha : GE X W a ga) (hb : GE X W b gb) (hm : behindInMarks op b = false := by first | exact nomark _ | rfl) : GE X W (.Compare a [op] [b] pos) (gOp f ga gb) := peI (pe_cmpR ho ha hb hm) fun _ _ _ h => up_gop hv h
theorem ge_ix {r : R2} {f : D → D → Out Exn D} (hr : IxR X r) (hv : V2 X.K r f) (ha : GE X W a ga) (hb : GE X W b gb) (hs : PlainIx b := by intro _ _; rfl) : GE X W (.Subscript a b pos) (gOp f ga gb) := peI (pe_ix hr ha hb hs) fun _ _ _ h => up_gop hv h
theorem up_gun {r : V → Hp → VK → Prop} {f : D → Out Exn D} (hv : V1 X.K r f) {σ : L2.St} {H : Hp} {R : VK} (h : upG X.K W (gUn f ga) σ H R) : tUn r (upG X.K W ga) σ H R := by
  obtain ⟨G, B, Φ, As, S, ρ, rp, q⟩ := h
  refine ⟨G, B, Φ, As, S, ρ, rp, Out.P_mono (Out.P_bind.mp q) (fun x q1 G1 H1 S1 v T1 s1 r1 hx n1 t1 => ?_) fun _ z => z⟩
  exact hv.go G1 B H1 v x.1 R r1.gh (bh_of r1) ⟨_, hx⟩ (fin_up r1 (Out.P_mono q1 (fun _ k => k.mono s1) fun _ k => k.mono s1))
theorem ge_un {op : UnaryOp} {r : V → Hp → VK → Prop} {f : D → Out Exn D} (ho : UnR X (unaryOp op) r) (hv : V1 X.K r f) (ha : GE X W a ga) : GE X W (.UnaryOp op a pos) (gUn f ga) := peI (pe_un ho ha) fun _ _ _ h => up_gun hv h
/-- a name's subscript: the name is read when the index is there -/
def gIxN (f : D → D → Out Exn D) (i : Nat) (gb : FG) : FG := fun ρ => match look ρ i with
  | some _ => (gb ρ).bind fun y => match look y.2 i with
    | some d => finG (f d y.1) y.2
    | none => .no
  | none => .no
theorem ge_ixN {i : Nat} {r : R2} {f : D → D → Out Exn D} (hr : IxR X r) (hv : V2 X.K r f) (hb : GE X W b gb) (hs : PlainIx b := by intro _ _; rfl) (hN : X.N[i]? = some x := by rfl) (hvs : Vis X.env.scope x := by first | exact Or.inl rfl | exact Or.inr (Or.inl rfl) | exact Or.inr (Or.inr rfl)) (hd : (x == ("__debug__" : Str)) = false := by decide) (hcd : (x == ("__classdict__" : Str)) = false := by decide) : GE X W (.Subscript (.Name x p) b pos) (gIxN f i gb) := by
  refine peI (pe_ix hr (pe_var hN hvs hd hcd) hb hs) fun σ H R ⟨G, B, Φ, As, S, ρ, rp, q⟩ => ?_
  unfold gIxN at q
  cases e0 : look ρ i with
  | none => rw [e0] at q; exact q.elim
  | some d0 =>
    rw [e0] at q
    obtain ⟨_, v, h1, _⟩ := rp.so.look e0
    refine ⟨v, h1, G, B, Φ, As, S, ρ, rp, Out.P_mono (Out.P_bind.mp q) (fun y q1 G1 H1 S1 w T1 s1 r1 hy n1 t1 => ?_) fun _ z => z⟩
    cases e : look y.2 i with
    | none => rw [e] at q1; exact q1.elim
    | some d =>
      rw [e] at q1
      obtain ⟨_, v', h1', hd⟩ := r1.so.look e
      rw [h1] at h1'
      cases h1'
      exact hv.go G1 B H1 v w d y.1 R r1.gh (bh_of r1) hd ⟨_, hy⟩ (fin_up r1 (Out.P_mono q1 (fun _ k => k.mono s1) fun _ k => k.mono s1))

/-! ### lists of them: each is settled -/
def gNil : FGA := fun ρ => .ok ([], ρ)
def gCons (ga : FG) (gs : FGA) : FGA := fun ρ => (ga ρ).bind fun x => (gs x.2).bind fun ds => .ok (x.1.fz :: ds.1, ds.2)
theorem ga_nil : GA X W [] gNil := paI pa_nil fun σ H R ⟨G, B, Φ, As, S, ρ, rp, q⟩ => q G H S [] (fun _ _ e => e) rp .nil
theorem ga_cons (ha : GE X W e ga) (hr : GA X W es gs) (hs : starEach (e :: es) X.env = (false, eval e X.env) :: starEach es X.env := by rfl) : GA X W (e :: es) (gCons ga gs) :=
  paI (pa_cons ha hr hs) fun σ H R ⟨G, B, Φ, As, S, ρ, rp, q⟩ => by
    refine ⟨G, B, Φ, As, S, ρ, rp, Out.P_mono (Out.P_bind.mp q) (fun x q1 G1 H1 S1 v T1 s1 r1 hx n1 t1 => ?_) fun _ z => z⟩
    have sm : Same G1 (more G1 H1 T1) := more_same fun a m => (t1.2 a m).2.1
    refine ⟨_, B, Φ, As, S1, x.2, r1.more t1, Out.P_mono (Out.P_bind.mp q1) (fun ds q2 G2 H2 S2 vs s2 r2 hds => ?_) fun _ z => z.mono (s1.trans sm)⟩
    have hd := dat_fz (H' := H2) hx fun a m => (t1.2 a m).2.1
    have := Dats.cons (fz_old _) (hd.mono s2 (fun _ _ q => q) (fun a m => by cases m)) hds
    exact q2 G2 H2 S2 (v :: vs) ((s1.trans sm).trans s2) r2 this
theorem Dats.ta {K : PySem.W.Frag} {G B H : Hp} : ∀ {S : List Addr} {vs : List V} {ds : List D}, Dats K G B H S vs ds → Dta K G B H vs ds
  | _, _, _, .nil => .nil
  | _, _, _, .cons _ h t => .cons ⟨_, h⟩ (Dats.ta t)
theorem up_gcb {r : List V → Hp → VK → Prop} {f : List D → Out Exn D} (hv : Vs X.K r f) {σ : L2.St} {H : Hp} {R : VK} (h : upG X.K W (gCB f gs) σ H R) : tCB r (upGA X.K W gs) σ H R := by
  obtain ⟨G, B, Φ, As, S, ρ, rp, q⟩ := h
  refine ⟨G, B, Φ, As, S, ρ, rp, Out.P_mono (Out.P_bind.mp q) (fun x q1 G1 H1 S1 vs s1 r1 hx => ?_) fun _ z => z⟩
  exact hv.go G1 B H1 vs x.1 R r1.gh (bh_of r1) (Dats.ta hx) (fin_up r1 (Out.P_mono q1 (fun _ k => k.mono s1) fun _ k => k.mono s1))
theorem ge_callB {r : List V → Hp → VK → Prop} {f : List D → Out Exn D} (hc : CallR X (.builtin id) r) (hv : Vs X.K r f) (hm : X.mg x = none) (hb : bootBuiltins x = some (.builtin id)) (ha : GA X W (e :: es) gs) (hg : Gl X x := by rfl) (hn : x ≠ "__name__" := by decide) (hdb : (x == ("__debug__" : Str)) = false := by decide)
    (he : starEach (e :: es) X.env = (false, eval e X.env) :: starEach es X.env := by rfl) (hpl : (backTo pos (starEach es X.env)).any (·.1) = false := by rfl) : GE X W (.Call (.Name x p) (e :: es) [] pos) (gCB f gs) := peI (pe_callB hc hg hm hb ha hn hdb he hpl) fun _ _ _ h => up_gcb hv h
theorem ge_callTy {r : List V → Hp → VK → Prop} {f : List D → Out Exn D} (hc : CallR X (.type T) r) (hv : Vs X.K r f) (hm : X.mg x = none) (hb : bootBuiltins x = some (.type T)) (ha : GA X W (e :: es) gs) (hg : Gl X x := by rfl) (hn : x ≠ "__name__" := by decide) (hdb : (x == ("__debug__" : Str)) = false := by decide)
    (he : starEach (e :: es) X.env = (false, eval e X.env) :: starEach es X.env := by rfl) (hpl : (backTo pos (starEach es X.env)).any (·.1) = false := by rfl) : GE X W (.Call (.Name x p) (e :: es) [] pos) (gCB f gs) := peI (pe_callTy hc hg hm hb ha hn hdb he hpl) fun _ _ _ h => up_gcb hv h

/-! ### displays -/
theorem TOk.one {G Φ H : Hp} {S : Pi → List Addr} {p : Addr} {o : HO} (gp : G p = none) (pp : Φ p = none) (hS : ∀ i, p ∉ S i) (hp : H p = some o) (hf : HO.free o) : TOk [p] S G Φ H := ⟨by simp, fun a m => by
  have : a = p := by simpa using m
  subst this
  exact ⟨hS, gp, pp, o, hp, hf⟩⟩
theorem VRep.none_of {K : PySem.W.Frag} {G B Φ H : Hp} {As : List V} {S : Pi → List Addr} {σ : L2.St} {ρ : Plc} (r : VRep K G B Φ H As S σ ρ) {p : Addr} (h : H p = none) : G p = none ∧ Φ p = none ∧ ∀ i, p ∉ S i :=
  ⟨Same.free r.gh h, Same.free r.ph h, fun i m => by obtain ⟨_, _, o, z, _⟩ := r.fr i p m; rw [h] at z; cases z⟩
def mkTupG (x : List D × Plc) : Out (Exn × Plc) (D × Plc) := if x.1.length ≤ sizeLine then .ok (.tup x.1, x.2) else .no
def mkLstG (x : List D × Plc) : Out (Exn × Plc) (D × Plc) := if x.1.length ≤ sizeLine then .ok (.lst .own x.1, x.2) else .no
def gTup (gs : FGA) : FG := fun ρ => (gs ρ).bind mkTupG
def gLst (gs : FGA) : FG := fun ρ => (gs ρ).bind mkLstG
theorem ge_tup {x1} (h : GA X W es gs) : GE X W (.Tuple es x1 pos) (gTup gs) := peI (pe_tup h) fun σ H R ⟨G, B, Φ, As, S, ρ, rp, q⟩ => by
  refine ⟨G, B, Φ, As, S, ρ, rp, Out.P_mono (Out.P_bind.mp q) (fun x q1 G1 H1 S1 vs s1 r1 hx => ?_) fun _ z => z⟩
  obtain ⟨hl, k⟩ := Out.P_if q1
  refine ⟨by rw [hx.length]; exact hl, fun p hp => ?_⟩
  have e := Ext.layG (o := .tup vs) r1.gh hp
  exact k _ _ S1 (.ref p) [] (s1.trans e.g) (r1.ext e) (.tup (.inl upd_same) (hx.mono e.g (fun _ _ q => q) (fun a m => by cases m))) (by simp [D.root]) .nil
theorem ge_lst (h : GA X W es gs) : GE X W (.List es pos) (gLst gs) := peI (pe_lst h) fun σ H R ⟨G, B, Φ, As, S, ρ, rp, q⟩ => by
  refine ⟨G, B, Φ, As, S, ρ, rp, Out.P_mono (Out.P_bind.mp q) (fun x q1 G1 H1 S1 vs s1 r1 hx => ?_) fun _ z => z⟩
  obtain ⟨hl, k⟩ := Out.P_if q1
  refine ⟨by rw [hx.length]; exact hl, fun p hp => ?_⟩
  have e := Ext.lay (o := .lst vs) r1.gh hp
  obtain ⟨g1, g2, g3⟩ := r1.none_of hp
  exact k _ _ S1 (.ref p) [p] (s1.trans e.g) (r1.ext e) (.lst (f := .own) upd_same (hx.mono e.g (fun _ _ q => q) (fun a m => by cases m))) (by simp [D.root]) (.one g1 g2 g3 upd_same (by intro _ _ z; cases z))

/-! ### lists of quiet ones and of names that are moved: what is owned stays so -/
abbrev FM := Plc → Out Exn (List D × Plc)
def upM (K : PySem.W.Frag) (W : WX) (f : FM) : TA := fun σ H R => ∃ (G B Φ : Hp) (As : List V) (S : Pi → List Addr) (ρ : Plc), VRep K G B Φ H As S σ ρ ∧
  (f ρ).P (fun x => ∀ G' H' S' vs T, Ext G H G' H' → VRep K G' B Φ H' As S' σ x.2 → Dats K G' B H' T vs x.1 → TOk T S' G' Φ H' → (∀ a ∈ T, (∃ i, a ∈ S i) ∨ H a = none) → (∀ i a, a ∈ S' i → a ∈ S i) → R vs H') (EX K W G B H σ)
abbrev GM (X : Cx) (W : WX) (es : List Expr) (f : FM) : Prop := PA X es (upM X.K W f)
def mNil : FM := fun ρ => .ok ([], ρ)
def mQ (f : FQ) (m : FM) : FM := fun ρ => (f ρ).bind fun d => if d.free = true then (m ρ).bind fun x => .ok (d.up :: x.1, x.2) else .no
def mMv (i : Nat) (m : FM) : FM := fun ρ => match ρ.s[i]? with
  | some (.val d) => (m (ρ.setS i .no)).bind fun x => .ok (d :: x.1, x.2)
  | _ => .no
theorem gm_nil : GM X W [] mNil := paI pa_nil fun σ H R ⟨G, B, Φ, As, S, ρ, rp, q⟩ => q G H S [] [] (Ext.refl rp.gh) rp .nil .nil (fun a m => by cases m) fun _ _ m => m
theorem TOk.app {T1 T2 : List Addr} {S : Pi → List Addr} {G Φ H : Hp} (a : TOk T1 S G Φ H) (b : TOk T2 S G Φ H) (d : ∀ x ∈ T1, x ∉ T2) : TOk (T1 ++ T2) S G Φ H :=
  ⟨List.nodup_append.mpr ⟨a.1, b.1, fun x hx y hy e => d x hx (e ▸ hy)⟩, fun x m => (List.mem_append.mp m).elim (a.2 x) (b.2 x)⟩
theorem TOk.ext {T : List Addr} {S S' : Pi → List Addr} {G Φ H G' H' : Hp} (t : TOk T S G Φ H) (e : Ext G H G' H') (sub : ∀ i a, a ∈ S' i → a ∈ S i) : TOk T S' G' Φ H' := ⟨t.1, fun a m => by
  obtain ⟨h1, h2, h3, o, h4, h5⟩ := t.2 a m
  refine ⟨fun i q => h1 i (sub i a q), ?_, h3, o, e.h a o h4, h5⟩
  cases z : G' a with
  | none => rfl
  | some u =>
    rcases e.new a u z with z | z
    · rw [h2] at z; cases z
    · rw [h4] at z; cases z⟩
theorem gm_q {fq : FQ} {m : FM} (ha : QE X W e fq) (hr : GM X W es m) (hs : starEach (e :: es) X.env = (false, eval e X.env) :: starEach es X.env := by rfl) : GM X W (e :: es) (mQ fq m) :=
  paI (pa_cons ha hr hs) fun σ H R ⟨G, B, Φ, As, S, ρ, rp, q⟩ => by
    refine ⟨G, B, As, ρ, rp.so, Out.P_mono (Out.P_bind.mp q) (fun d q1 G1 H1 v e1 hd fr => ?_) fun _ z => z⟩
    obtain ⟨hf, q1⟩ := Out.P_ifn q1
    obtain ⟨T1, hT, t1⟩ := up_dat rp e1 hd fr hf
    have f1 : ∀ a ∈ T1, H a = none := fun a m => by
      cases z : H a with
      | none => rfl
      | some u =>
        by_cases ho : d.old
        · rw [up_id ho] at hT
          rw [free_id ho] at hf
          have := hT.noS hf
          subst this; cases m
        · have hr : d.root = some .new := by simpa using ho
          obtain ⟨p, rfl, h1, h2⟩ := fr hr
          have : T1 = [p] := by
            cases d with
            | lst f xs => cases hr; cases hT with | lst n hs => simp only [D.free] at hf; rw [Dats.noS hs hf]; rfl
            | dic f xs => cases hr; cases hT with | dic n hs => simp only [D.free] at hf; rw [DatM.noS hs hf]; rfl
            | dit f xs => cases hr; cases hT with | dit n hs => simp only [D.free] at hf; rw [DatM.noS hs hf]; rfl
            | obj f C xs => cases hr; cases hT with | obj n hs => simp only [D.free] at hf; rw [DatM.noS hs hf]; rfl
            | _ => cases hr
          subst this
          have : a = p := by simpa using m
          subst this
          rw [h1] at z; cases z
    refine ⟨G1, B, Φ, As, S, ρ, rp.ext e1, Out.P_mono (Out.P_bind.mp q1) (fun x q2 G2 H2 S2 vs T2 e2 r2 hds t2 fr2 sub2 => ?_) fun _ z => EX.ext e1 z⟩
    have dj : ∀ a ∈ T1, a ∉ T2 := fun a m m2 => by
      obtain ⟨h1, _, _, o, h4, _⟩ := t1.2 a m
      rcases fr2 a m2 with ⟨i, hi⟩ | z
      · exact h1 i hi
      · rw [h4] at z; cases z
    refine q2 G2 H2 S2 (v :: vs) (T1 ++ T2) (e1.trans e2) r2 (.cons (up_old d) (hT.mono e2.g (fun _ _ q => q) (On.of e2.h)) hds) ((t1.ext e2 sub2).app t2 dj) (fun a m => ?_) sub2
    rcases List.mem_append.mp m with m | m
    · exact .inr (f1 a m)
    · rcases fr2 a m with h | h
      · exact .inl h
      · exact .inr (Same.free e1.h h)
theorem gm_mv {i : Nat} {m : FM} {np : Pos} (hr : GM X W es m) (hs : starEach (.Name x np :: es) X.env = (false, eval (.Name x np) X.env) :: starEach es X.env := by rfl) (hN : X.N[i]? = some x := by rfl) (hv : Vis X.env.scope x := by first | exact Or.inl rfl | exact Or.inr (Or.inl rfl) | exact Or.inr (Or.inr rfl)) (hd : (x == ("__debug__" : Str)) = false := by decide) (hcd : (x == ("__classdict__" : Str)) = false := by decide) : GM X W (.Name x np :: es) (mMv i m) :=
  paI (pa_cons (pe_var hN hv hd hcd) hr hs) fun σ H R ⟨G, B, Φ, As, S, ρ, rp, q⟩ => by
    unfold mMv at q
    cases hi : ρ.s[i]? with
    | none => rw [hi] at q; exact q.elim
    | some sl =>
      rw [hi] at q
      cases sl with
      | no => exact q.elim
      | arg j => exact q.elim
      | val d =>
        obtain ⟨v, h1, n, h2, r', t⟩ := rp.take hi
        refine ⟨v, h1, G, B, Φ, As, _, _, r', Out.P_mono (Out.P_bind.mp q) (fun y q2 G2 H2 S2 vs T2 e2 r2 hds t2 fr2 sub2 => ?_) fun _ z => z⟩
        have sub0 : ∀ k a, a ∈ setS S (.inl i) [] k → a ∈ S k := fun k a m => by
          by_cases hk : k = .inl i
          · subst hk; rw [setS_same] at m; cases m
          · rw [setS_ne hk] at m; exact m
        have dj : ∀ a ∈ S (.inl i), a ∉ T2 := fun a m m2 => by
          obtain ⟨h1, _, _, o, h4, _⟩ := t.2 a m
          rcases fr2 a m2 with ⟨k, hk⟩ | z
          · exact h1 k hk
          · rw [h4] at z; cases z
        refine q2 G2 H2 S2 (v :: vs) (S (.inl i) ++ T2) e2 r2 (.cons n (h2.mono e2.g (fun _ _ q => q) (On.of e2.h)) hds) ((t.ext e2 sub2).app t2 dj) (fun a m => ?_) fun k a m => sub0 k a (sub2 k a m)
        rcases List.mem_append.mp m with m | m
        · exact .inl ⟨_, m⟩
        · rcases fr2 a m with ⟨k, hk⟩ | h
          · exact .inl ⟨k, sub0 k a hk⟩
          · exact .inr h
def gTupO (m : FM) : FG := fun ρ => match m ρ with
  | .ok x => if x.1.length ≤ sizeLine then .ok (.tup x.1, x.2) else .no
  | .ex e => .ex (e, ρ)
  | .no => .no
def gLstO (m : FM) : FG := fun ρ => match m ρ with
  | .ok x => if x.1.length ≤ sizeLine then .ok (.lst .own x.1, x.2) else .no
  | .ex e => .ex (e, ρ)
  | .no => .no
theorem ge_tupO {x1} {m : FM} (h : GM X W es m) : GE X W (.Tuple es x1 pos) (gTupO m) := peI (pe_tup h) fun σ H R ⟨G, B, Φ, As, S, ρ, rp, q⟩ => by
  refine ⟨G, B, Φ, As, S, ρ, rp, ?_⟩
  unfold gTupO at q
  cases hm : m ρ with
  | no => rw [hm] at q; exact q.elim
  | ex x => rw [hm] at q; exact EX.of rp q
  | ok x =>
    rw [hm] at q
    obtain ⟨hl, k⟩ := Out.P_if q
    intro G1 H1 S1 vs T e1 r1 hx t1 _ _
    refine ⟨by rw [hx.length]; exact hl, fun p hp => ?_⟩
    have e := Ext.layG (o := .tup vs) r1.gh hp
    exact k _ _ S1 (.ref p) T (e1.g.trans e.g) (r1.ext e) (.tup (.inl upd_same) (hx.mono e.g (fun _ _ q => q) (On.of e.h))) (by simp [D.root]) (t1.ext e fun _ _ m => m)
theorem ge_lstO {m : FM} (h : GM X W es m) : GE X W (.List es pos) (gLstO m) := peI (pe_lst h) fun σ H R ⟨G, B, Φ, As, S, ρ, rp, q⟩ => by
  refine ⟨G, B, Φ, As, S, ρ, rp, ?_⟩
  unfold gLstO at q
  cases hm : m ρ with
  | no => rw [hm] at q; exact q.elim
  | ex x => rw [hm] at q; exact EX.of rp q
  | ok x =>
    rw [hm] at q
    obtain ⟨hl, k⟩ := Out.P_if q
    intro G1 H1 S1 vs T e1 r1 hx t1 _ _
    refine ⟨by rw [hx.length]; exact hl, fun p hp => ?_⟩
    have e := Ext.lay (o := .lst vs) r1.gh hp
    obtain ⟨g1, g2, g3⟩ := r1.none_of hp
    have tp : TOk [p] S1 G1 Φ (upd H1 p (.lst vs)) := .one g1 g2 g3 upd_same (by intro _ _ z; cases z)
    refine k _ _ S1 (.ref p) (p :: T) (e1.g.trans e.g) (r1.ext e) (.lst (f := .own) upd_same (hx.mono e.g (fun _ _ q => q) (On.of e.h))) (by simp [D.root]) (tp.app (t1.ext e fun _ _ m => m) fun a m m2 => ?_)
    have : a = p := by simpa using m
    subst this
    obtain ⟨_, _, _, o, h4, _⟩ := t1.2 a m2
    rw [hp] at h4; cases h4

/-! ### tests -/
def gTV (ga : FG) : FGT := fun ρ => (ga ρ).bind fun x => match x.1 with
  | .bl b => .ok (b, x.2)
  | _ => .no
def gNot (t : FGT) : FGT := fun ρ => (t ρ).bind fun b => .ok (!b.1, b.2)
def gAnd (t u : FGT) : FGT := fun ρ => (t ρ).bind fun b => if b.1 = true then u b.2 else .ok (false, b.2)
def gOr (t u : FGT) : FGT := fun ρ => (t ρ).bind fun b => if b.1 = true then .ok (true, b.2) else u b.2
def gIf (t : FGT) (ga gb : FG) : FG := fun ρ => (t ρ).bind fun b => if b.1 = true then ga b.2 else gb b.2
variable {t u : FGT} {rest : List Expr}
theorem up_gb {σ : L2.St} {H : Hp} {R : Bool → Hp → Prop} (h : upGT X.K W (gTV ga) σ H R) : tB (upG X.K W ga) σ H R := by
  obtain ⟨G, B, Φ, As, S, ρ, rp, q⟩ := h
  refine ⟨G, B, Φ, As, S, ρ, rp, Out.P_mono (Out.P_bind.mp q) (fun x q1 G1 H1 S1 v T1 s1 r1 hx n1 t1 => ?_) fun _ z => z⟩
  obtain ⟨d, ρ1⟩ := x
  cases d with
  | bl b => exact ⟨b, dt_bl ⟨_, hx⟩, q1 G1 H1 S1 s1 r1⟩
  | _ => exact q1.elim
theorem gt_val (h : GE X W a ga) (he : ∀ whole, isTrue a X.env whole = (do let v ← whole; standAt a.pos; holding [v] (truthy v)) := by intro _; rfl) : GT X W a (gTV ga) := ptI (pt_val h he) fun _ _ _ h => up_gb h
theorem gt_cmp {op : CmpOp} {r : R2} {f : D → D → Out Exn D} (ho : OpR X (compareOp op) r) (hv : V2 X.K r f) (ha : GE X W a ga) (hb : GE X W b gb) (hm : behindInMarks op b = false := by first | exact nomark _ | rfl) : GT X W (.Compare a [op] [b] pos) (gTV (gOp f ga gb)) :=
  ptI (pt_cmpR ho ha hb hm) fun σ H R h => up_gop hv (up_gb h)
theorem upGT_bind {K : PySem.W.Frag} {σ : L2.St} {H : Hp} {R : Bool → Hp → Prop} {G B Φ : Hp} {As : List V} {S : Pi → List Addr} {ρ : Plc} {α : Type} {P : α → Prop} {k : Bool × Plc → Out (Exn × Plc) α} (rp : VRep K G B Φ H As S σ ρ) (h : ((t ρ).bind k).P P (GX K W G B Φ As σ))
    (go : ∀ b ρ1 G1 H1 S1, Same G G1 → VRep K G1 B Φ H1 As S1 σ ρ1 → (k (b, ρ1)).P P (GX K W G B Φ As σ) → R b H1) : upGT K W t σ H R :=
  ⟨G, B, Φ, As, S, ρ, rp, Out.P_mono (Out.P_bind.mp h) (fun x q G1 H1 S1 s1 r1 => go x.1 x.2 G1 H1 S1 s1 r1 q) fun _ z => z⟩
theorem gt_not (h : GT X W a t) : GT X W (.UnaryOp .Not a pos) (gNot t) := ptI (pt_not h) fun σ H R ⟨G, B, Φ, As, S, ρ, rp, q⟩ => upGT_bind rp q fun b ρ1 G1 H1 S1 s1 r1 q1 => q1 G1 H1 S1 s1 r1
theorem gw_and1 (h : GT X W a t) : GW X W (.BoolOp .And [a] pos) t := pw_and1 h
theorem gw_or1 (h : GT X W a t) : GW X W (.BoolOp .Or [a] pos) t := pw_or1 h
theorem gw_and (h : GT X W a t) (h2 : GW X W (.BoolOp .And (b :: rest) pos) u) : GW X W (.BoolOp .And (a :: b :: rest) pos) (gAnd t u) := pwI (pw_and h h2) fun σ H R ⟨G, B, Φ, As, S, ρ, rp, q⟩ => upGT_bind rp q fun b ρ1 G1 H1 S1 s1 r1 q1 => by
  cases b with
  | true => exact iteT (gkt_up r1 s1 (by simpa using q1))
  | false => exact iteF ((show GKT X.K G B Φ As σ R (false, ρ1) by simpa [Out.P] using q1) G1 H1 S1 s1 r1)
theorem gw_or (h : GT X W a t) (h2 : GW X W (.BoolOp .Or (b :: rest) pos) u) : GW X W (.BoolOp .Or (a :: b :: rest) pos) (gOr t u) := pwI (pw_or h h2) fun σ H R ⟨G, B, Φ, As, S, ρ, rp, q⟩ => upGT_bind rp q fun b ρ1 G1 H1 S1 s1 r1 q1 => by
  cases b with
  | true => exact iteT ((show GKT X.K G B Φ As σ R (true, ρ1) by simpa [Out.P] using q1) G1 H1 S1 s1 r1)
  | false => exact iteF (gkt_up r1 s1 (by simpa using q1))
theorem ge_ifExp (hc : GT X W c t) (h : GE X W a ga) (h2 : GE X W b gb) : GE X W (.IfExp c a b pos) (gIf t ga gb) := peI (pe_ifExp hc h h2) fun σ H R ⟨G, B, Φ, As, S, ρ, rp, q⟩ => upGT_bind rp q fun b ρ1 G1 H1 S1 s1 r1 q1 => by
  cases b with
  | true => exact iteT (gk_up r1 s1 (by simpa using q1))
  | false => exact iteF (gk_up r1 s1 (by simpa using q1))
end
end VL

/-! VLj: statements. -/
namespace VL
open PySem PySem.Spec PyProof.Rows L2

inductive OS where
  | nx (ρ : Plc) | rt (d : D) (ρ : Plc) | ex (x : Exn) (ρ : Plc) | bk (ρ : Plc) | ct (ρ : Plc) | no
abbrev FS := Plc → OS
def OS.End (K : PySem.W.Frag) (W : WX) (G B Φ : Hp) (As : List V) (E : Ends) : OS → Prop
  | .nx ρ => ∀ G' H' S' σ', Same G G' → VRep K G' B Φ H' As S' σ' ρ → E.nx σ' H'
  | .rt d ρ => ∀ G' H' S' σ' v T, Same G G' → VRep K G' B Φ H' As S' σ' ρ → Dat K G' B H' T v d → d.old → TOk T S' G' Φ H' → E.rt v H'
  | .ex x ρ => ∀ G' H' S' σ' cls dx, Same G G' → VRep K G' B Φ H' As S' σ' ρ → ExnR K G' B H' x cls dx → W cls dx σ' H'
  | .bk ρ => ∀ G' H' S' σ', Same G G' → VRep K G' B Φ H' As S' σ' ρ → E.bk σ' H'
  | .ct ρ => ∀ G' H' S' σ', Same G G' → VRep K G' B Φ H' As S' σ' ρ → E.ct σ' H'
  | .no => False
theorem OS.End.mono {K : PySem.W.Frag} {W : WX} {G G1 B Φ : Hp} {As : List V} {E : Ends} (s : Same G G1) : ∀ {o : OS}, o.End K W G B Φ As E → o.End K W G1 B Φ As E
  | .nx _, h => fun G' H' S' σ' s' => h G' H' S' σ' (s.trans s')
  | .rt _ _, h => fun G' H' S' σ' v T s' => h G' H' S' σ' v T (s.trans s')
  | .ex _ _, h => fun G' H' S' σ' cls dx s' => h G' H' S' σ' cls dx (s.trans s')
  | .bk _, h => fun G' H' S' σ' s' => h G' H' S' σ' (s.trans s')
  | .ct _, h => fun G' H' S' σ' s' => h G' H' S' σ' (s.trans s')
  | .no, h => h
def upS (K : PySem.W.Frag) (W : WX) (f : FS) : TS := fun E σ H => ∃ (G B Φ : Hp) (As : List V) (S : Pi → List Addr) (ρ : Plc), VRep K G B Φ H As S σ ρ ∧ (f ρ).End K W G B Φ As E
abbrev VS (X : Cx) (W : WX) (st : Stmt) (f : FS) : Prop := PS X st (upS X.K W f)
abbrev VSs (X : Cx) (W : WX) (st : List Stmt) (f : FS) : Prop := PSs X st (upS X.K W f)
theorem psI {X : Cx} {e : Stmt} {t t' : TS} (h : PS X e t) (i : ∀ E σ H, t' E σ H → t E σ H) : PS X e t' := ⟨fun pins s σ H E I q => h.run pins s σ H E I (i E σ H q)⟩
theorem pssI {X : Cx} {e : List Stmt} {t t' : TS} (h : PSs X e t) (i : ∀ E σ H, t' E σ H → t E σ H) : PSs X e t' := ⟨fun pins s σ H E I q => h.run pins s σ H E I (i E σ H q)⟩
/-- what an expression leaves, and what is made of it -/
def seqE {α : Type} (o : Out (Exn × Plc) (α × Plc)) (k : α → Plc → OS) : OS := match o with
  | .ok x => k x.1 x.2
  | .ex e => .ex e.1 e.2
  | .no => .no
def seqS (o : OS) (k : FS) : OS := match o with
  | .nx ρ => k ρ
  | o => o
def sNext : FS := fun ρ => .nx ρ
def sSeq (a b : FS) : FS := fun ρ => seqS (a ρ) b
def sDrop (ga : FG) : FS := fun ρ => seqE (ga ρ) fun _ ρ1 => .nx ρ1
def sRet (ga : FG) : FS := fun ρ => seqE (ga ρ) fun d ρ1 => .rt d ρ1
def sRetN : FS := fun ρ => .rt .non ρ
def sIf (t : FGT) (a b : FS) : FS := fun ρ => seqE (t ρ) fun c ρ1 => if c = true then a ρ1 else b ρ1
def sSet (i : Nat) (ga : FG) : FS := fun ρ => seqE (ga ρ) fun d ρ1 => .nx (ρ1.setS i (.val d))
def sBreak : FS := fun ρ => .bk ρ
def sCont : FS := fun ρ => .ct ρ
/-- slots are forgotten -/
def Plc.kill (ρ : Plc) (is : List Nat) : Plc := is.foldl (fun ρ i => ρ.setS i .no) ρ
def sKill (is : List Nat) (a : FS) : FS := fun ρ => seqS (a ρ) fun ρ1 => .nx (ρ1.kill is)
section
variable {X : Cx} {W : WX} {a b c e o : Expr} {es : List Expr} {ga gb : FG} {gs : FGA} {pos p apos : Pos} {x : Str} {t : FGT} {st : Stmt} {rest A B' : List Stmt} {f g : FS}
theorem seqE_G {K : PySem.W.Frag} {G B Φ H : Hp} {As : List V} {S : Pi → List Addr} {σ : L2.St} {ρ : Plc} {E : Ends} {k : D → Plc → OS} {R : VK} (rp : VRep K G B Φ H As S σ ρ) (q : (seqE (ga ρ) k).End K W G B Φ As E)
    (go : ∀ d ρ1 G1 H1 S1 v T, Same G G1 → VRep K G1 B Φ H1 As S1 σ ρ1 → Dat K G1 B H1 T v d → d.old → TOk T S1 G1 Φ H1 → (k d ρ1).End K W G B Φ As E → R v H1) : upG K W ga σ H R := by
  refine ⟨G, B, Φ, As, S, ρ, rp, ?_⟩
  unfold seqE at q
  cases h : ga ρ with
  | no => rw [h] at q; exact q.elim
  | ex x => rw [h] at q; exact fun G' H' S' cls dx s r er => q G' H' S' σ cls dx s r er
  | ok x => rw [h] at q; exact fun G1 H1 S1 v T s1 r1 hd n t => go x.1 x.2 G1 H1 S1 v T s1 r1 hd n t q
theorem seqE_T {K : PySem.W.Frag} {G B Φ H : Hp} {As : List V} {S : Pi → List Addr} {σ : L2.St} {ρ : Plc} {E : Ends} {k : Bool → Plc → OS} {R : Bool → Hp → Prop} (rp : VRep K G B Φ H As S σ ρ) (q : (seqE (t ρ) k).End K W G B Φ As E)
    (go : ∀ d ρ1 G1 H1 S1, Same G G1 → VRep K G1 B Φ H1 As S1 σ ρ1 → (k d ρ1).End K W G B Φ As E → R d H1) : upGT K W t σ H R := by
  refine ⟨G, B, Φ, As, S, ρ, rp, ?_⟩
  unfold seqE at q
  cases h : t ρ with
  | no => rw [h] at q; exact q.elim
  | ex x => rw [h] at q; exact fun G' H' S' cls dx s r er => q G' H' S' σ cls dx s r er
  | ok x => rw [h] at q; exact fun G1 H1 S1 s1 r1 => go x.1 x.2 G1 H1 S1 s1 r1 q
theorem seqS_up {K : PySem.W.Frag} {G B Φ H : Hp} {As : List V} {S : Pi → List Addr} {σ : L2.St} {ρ : Plc} {E : Ends} {k : FS} {nx' : L2.St → Hp → Prop} (rp : VRep K G B Φ H As S σ ρ) (q : (seqS (f ρ) k).End K W G B Φ As E)
    (go : ∀ ρ1 G1 H1 S1 σ1, Same G G1 → VRep K G1 B Φ H1 As S1 σ1 ρ1 → (k ρ1).End K W G B Φ As E → nx' σ1 H1) : upS K W f { E with nx := nx' } σ H := by
  refine ⟨G, B, Φ, As, S, ρ, rp, ?_⟩
  unfold seqS at q
  cases h : f ρ with
  | nx ρ1 => rw [h] at q; exact fun G1 H1 S1 σ1 s1 r1 => go ρ1 G1 H1 S1 σ1 s1 r1 q
  | rt d ρ1 => rw [h] at q; exact q
  | ex x ρ1 => rw [h] at q; exact q
  | bk ρ1 => rw [h] at q; exact q
  | ct ρ1 => rw [h] at q; exact q
  | no => rw [h] at q; exact q
theorem vss_nil : VSs X W [] sNext := pssI pss_nil fun E σ H ⟨G, B, Φ, As, S, ρ, rp, q⟩ => q G H S σ (fun _ _ e => e) rp
theorem vss_one (h : VS X W st f) : VSs X W [st] f := pss_one h
theorem vss_cons (h : VS X W st f) (h2 : VSs X W rest g) : VSs X W (st :: rest) (sSeq f g) := pssI (pss_cons h h2) fun E σ H ⟨G, B, Φ, As, S, ρ, rp, q⟩ =>
  seqS_up rp q fun ρ1 G1 H1 S1 σ1 s1 r1 q1 => ⟨G1, B, Φ, As, S1, ρ1, r1, q1.mono s1⟩
theorem VRep.kill {K : PySem.W.Frag} {G B Φ H : Hp} {As : List V} {σ : L2.St} : ∀ (is : List Nat) {S : Pi → List Addr} {ρ : Plc}, VRep K G B Φ H As S σ ρ → ∃ S', VRep K G B Φ H As S' σ (ρ.kill is)
  | [], S, _, r => ⟨S, r⟩
  | i :: is, S, ρ, r => by
    have d : VRep K G B Φ H As (setS S (.inl i) []) σ (ρ.setS i .no) := by
      cases hi : σ[i]? with
      | some x =>
        have := r.drop (i := i) (x := x)
        rwa [set_self hi] at this
      | none =>
        have := r.drop (i := i) (x := none)
        rwa [List.set_eq_of_length_le (by simpa using hi)] at this
    exact VRep.kill is d
theorem vs_kill {is : List Nat} (h : VS X W st f) : VS X W st (sKill is f) := psI h fun E σ H ⟨G, B, Φ, As, S, ρ, rp, q⟩ =>
  seqS_up rp q fun ρ1 G1 H1 S1 σ1 s1 r1 q1 => by
    obtain ⟨S2, r2⟩ := r1.kill is
    exact q1 G1 H1 S2 σ1 s1 r2
theorem vs_pass : VS X W (.Pass pos) sNext := psI ps_pass fun E σ H ⟨G, B, Φ, As, S, ρ, rp, q⟩ => q G H S σ (fun _ _ e => e) rp
theorem vs_expr (he : GE X W e ga) (hs : swapsWith e none pos.line X.env = pure false := by rfl) : VS X W (.Expr e pos) (sDrop ga) := psI (ps_expr he hs) fun E σ H ⟨G, B, Φ, As, S, ρ, rp, q⟩ =>
  seqE_G rp q fun d ρ1 G1 H1 S1 v T s1 r1 hd n t q1 => q1 G1 H1 S1 σ s1 r1
theorem vs_ret (he : GE X W e ga) : VS X W (.Return (some e) pos) (sRet ga) := psI (ps_ret he) fun E σ H ⟨G, B, Φ, As, S, ρ, rp, q⟩ =>
  seqE_G rp q fun d ρ1 G1 H1 S1 v T s1 r1 hd n t q1 => q1 G1 H1 S1 σ v T s1 r1 hd n t
theorem vs_retN : VS X W (.Return none pos) sRetN := psI ps_retN fun E σ H ⟨G, B, Φ, As, S, ρ, rp, q⟩ => q G H S σ .non [] (fun _ _ e => e) rp .non (by simp [D.root]) .nil
theorem vs_break : VS X W (.Break pos) sBreak := psI ps_break fun E σ H ⟨G, B, Φ, As, S, ρ, rp, q⟩ => q G H S σ (fun _ _ e => e) rp
theorem vs_continue : VS X W (.Continue pos) sCont := psI ps_continue fun E σ H ⟨G, B, Φ, As, S, ρ, rp, q⟩ => q G H S σ (fun _ _ e => e) rp
theorem vs_if {c : Expr} (hc : GT X W c t) (h1 : VSs X W A f) (h2 : VSs X W B' g) : VS X W (.If c A B' pos) (sIf t f g) := psI (ps_if hc h1 h2) fun E σ H ⟨G, B, Φ, As, S, ρ, rp, q⟩ =>
  seqE_T rp q fun d ρ1 G1 H1 S1 s1 r1 q1 => by
    cases d with
    | true => exact iteT ⟨G1, B, Φ, As, S1, ρ1, r1, OS.End.mono s1 (by simpa using q1)⟩
    | false => exact iteF ⟨G1, B, Φ, As, S1, ρ1, r1, OS.End.mono s1 (by simpa using q1)⟩
theorem vs_set {i : Nat} {pos' : Pos} (hN : X.N.Nodup) (hi : X.N[i]? = some x) (hx : Loc X.env.scope x) (he : GE X W e ga) (hs : swapsWith e (some (.Name x pos')) pos.line X.env = pure false := by rfl) (hf : X.fn x = true ∨ X.env.scope.names.lookup x = some .local := by first | exact .inl rfl | exact .inr rfl | assumption) :
    VS X W (.Assign [.Name x pos'] e pos) (sSet i ga) := psI (ps_set hN hi hx he hs hf) fun E σ H ⟨G, B, Φ, As, S, ρ, rp, q⟩ =>
  seqE_G rp q fun d ρ1 G1 H1 S1 v T s1 r1 hd n t q1 => q1 G1 H1 _ _ s1 (r1.set hd n t)

/-! ### targets -/
inductive Tg where
  | nm (i : Nat) | tp (ts : List Tg)
mutual
def Tg.put : Tg → D → Plc → Option Plc
  | .nm i, d, ρ => some (ρ.setS i (.val d))
  | .tp ts, .tup ds, ρ => Tg.puts ts ds ρ
  | .tp _, _, _ => none
def Tg.puts : List Tg → List D → Plc → Option Plc
  | [], [], ρ => some ρ
  | t :: ts, d :: ds, ρ => match Tg.put t d ρ with
    | some ρ1 => Tg.puts ts ds ρ1
    | none => none
  | _, _, _ => none
end
mutual
/-- the target's reading in HandS -/
def Tg.rd (K : PySem.W.Frag) : Tg → TG
  | .nm i => L2.gName i
  | .tp ts => L2.gTup K ts.length (Tg.rds K ts)
def Tg.rds (K : PySem.W.Frag) : List Tg → TGs
  | [] => L2.gNil
  | t :: ts => L2.gCons (Tg.rd K t) (Tg.rds K ts)
end
theorem TOk.left {T1 T2 : List Addr} {S : Pi → List Addr} {G Φ H : Hp} (t : TOk (T1 ++ T2) S G Φ H) : TOk T1 S G Φ H := ⟨(List.nodup_append.mp t.1).1, fun a m => t.2 a (List.mem_append_left _ m)⟩
theorem TOk.right {T1 T2 : List Addr} {S : Pi → List Addr} {G Φ H : Hp} (t : TOk (T1 ++ T2) S G Φ H) : TOk T2 S G Φ H := ⟨(List.nodup_append.mp t.1).2.1, fun a m => t.2 a (List.mem_append_right _ m)⟩
mutual
theorem Tg.ok {K : PySem.W.Frag} {G B Φ H : Hp} {As : List V} : ∀ (tg : Tg) {S : Pi → List Addr} {σ : L2.St} {ρ ρ' : Plc} {v : V} {d : D} {T U : List Addr} {R : L2.St → Hp → Prop}, VRep K G B Φ H As S σ ρ → Dat K G B H T v d → d.old → TOk (T ++ U) S G Φ H → Tg.put tg d ρ = some ρ' →
    (∀ S' σ', VRep K G B Φ H As S' σ' ρ' → TOk U S' G Φ H → R σ' H) → Tg.rd K tg v σ H R
  | .nm i, S, σ, ρ, ρ', v, d, T, U, R, r, hd, n, t, e, k => by
    simp only [Tg.put, Option.some.injEq] at e
    subst e
    refine k _ _ (r.set hd n t.left) ⟨t.right.1, fun a m => ⟨fun j q => ?_, (t.right.2 a m).2⟩⟩
    by_cases hj : j = .inl i
    · subst hj
      rw [setS_same] at q
      exact (List.nodup_append.mp t.1).2.2 a q a m rfl
    · rw [setS_ne hj] at q
      exact (t.right.2 a m).1 j q
  | .tp ts, S, σ, ρ, ρ', v, d, T, U, R, r, hd, n, t, e, k => by
    cases d with
    | tup ds =>
      cases hd with
      | tup h hs =>
        simp only [Tg.put] at e
        have hl : ds.length = ts.length := Tg.puts_len ts ds e
        exact ⟨_, _, rfl, Same.sqT r.gh h.sq, hs.length.trans hl, Tg.oks ts r hs t e k⟩
    | _ => simp [Tg.put] at e
theorem Tg.oks {K : PySem.W.Frag} {G B Φ H : Hp} {As : List V} : ∀ (ts : List Tg) {S : Pi → List Addr} {σ : L2.St} {ρ ρ' : Plc} {vs : List V} {ds : List D} {T U : List Addr} {R : L2.St → Hp → Prop}, VRep K G B Φ H As S σ ρ → Dats K G B H T vs ds → TOk (T ++ U) S G Φ H → Tg.puts ts ds ρ = some ρ' →
    (∀ S' σ', VRep K G B Φ H As S' σ' ρ' → TOk U S' G Φ H → R σ' H) → Tg.rds K ts vs σ H R
  | [], S, σ, ρ, ρ', vs, ds, T, U, R, r, hs, t, e, k => by
    cases hs with
    | nil => simp only [Tg.puts, Option.some.injEq] at e; subst e; exact ⟨rfl, k _ _ r t⟩
    | cons _ _ _ => simp [Tg.puts] at e
  | tg :: ts, S, σ, ρ, ρ', vs, ds, T, U, R, r, hs, t, e, k => by
    cases hs with
    | nil => simp [Tg.puts] at e
    | cons n h hs =>
      simp only [Tg.puts] at e
      cases e1 : Tg.put tg _ ρ with
      | none => rw [e1] at e; cases e
      | some ρ1 =>
        rw [e1] at e
        refine ⟨_, _, rfl, Tg.ok tg r h n (by rw [List.append_assoc] at t; exact t) e1 fun S' σ' r' t' => Tg.oks ts r' hs t' e k⟩
theorem Tg.puts_len : ∀ (ts : List Tg) (ds : List D) {ρ ρ' : Plc}, Tg.puts ts ds ρ = some ρ' → ds.length = ts.length
  | [], [], _, _, _ => rfl
  | [], _ :: _, _, _, e => by simp [Tg.puts] at e
  | _ :: _, [], _, _, e => by simp [Tg.puts] at e
  | t :: ts, d :: ds, ρ, _, e => by
    simp only [Tg.puts] at e
    cases e1 : Tg.put t d ρ with
    | none => rw [e1] at e; cases e
    | some ρ1 => rw [e1] at e; simp [Tg.puts_len ts ds e]
end
def sAsg (tg : Tg) (ga : FG) : FS := fun ρ => seqE (ga ρ) fun d ρ1 => match tg.put d ρ1 with
  | some ρ2 => .nx ρ2
  | none => .no
theorem vs_asg {tg : Tg} {tgx : Expr} (he : GE X W e ga) (hg : PG X tgx (tg.rd X.K)) (hs : swapsWithSole [tgx] e pos.line X.env = pure false := by rfl) (hw : swappedStores [tgx] e X.env = pure none := by rfl)
    (h1 : (assignEach [tgx] X.env).map (·.2) = [assign tgx X.env] := by rfl) : VS X W (.Assign [tgx] e pos) (sAsg tg ga) := psI (ps_asg he hg hs hw h1) fun E σ H ⟨G, B, Φ, As, S, ρ, rp, q⟩ =>
  seqE_G rp q fun d ρ1 G1 H1 S1 v T s1 r1 hd n t q1 => by
    cases e1 : tg.put d ρ1 with
    | none => rw [e1] at q1; exact q1.elim
    | some ρ2 =>
      rw [e1] at q1
      exact Tg.ok tg (U := []) r1 hd n (by simpa using t) e1 fun S' σ' r' _ => q1 G1 H1 S' σ' s1 r'
theorem tg_nm {i : Nat} (hN : X.N.Nodup) (hi : X.N[i]? = some x) (hx : Loc X.env.scope x) (hf : X.fn x = true ∨ X.env.scope.names.lookup x = some .local := by first | exact .inl rfl | exact .inr rfl | assumption) : PG X (.Name x pos) (Tg.rd X.K (.nm i)) := pg_name hN hi hx hf
theorem tgs_nil : PGs X [] (Tg.rds X.K []) := pgs_nil
theorem tgs_cons {t : Tg} {ts : List Tg} (h1 : PG X e (Tg.rd X.K t)) (h2 : PGs X es (Tg.rds X.K ts)) (hs : (assignEach (e :: es) X.env).map (·.2) = assign e X.env :: (assignEach es X.env).map (·.2) := by rfl) : PGs X (e :: es) (Tg.rds X.K (t :: ts)) := pgs_cons h1 h2 hs
theorem tg_tp {ts : List Tg} {k : Nat} (hc : X.calm = true) (h : PGs X es (Tg.rds X.K ts)) (hn : (assignEach es X.env).length = ts.length := by rfl) (hst : (assignEach es X.env).findIdx? (·.1) = none := by rfl) : PG X (.Tuple es k pos) (Tg.rd X.K (.tp ts)) := pg_tup hc h hn hst
end
end VL

/-! VLk: loops, comprehensions. -/
namespace VL
open PySem PySem.Spec PyProof.Rows L2

/-! ### what is walked -/
def Wk (C : Hp → Hp → Prop) (K : PySem.W.Frag) (B : Hp) (J : It) (ds : List D) : Prop :=
  ∀ (i : Nat) (G' H' : Hp), C G' H' → (∀ d, ds[i]? = some d → J.go i H' ∧ ∀ x H'', J.yld i H' x H'' → ∃ G'', Ext G' H' G'' H'' ∧ Dt K G'' B H'' x d ∧ d.old) ∧ (ds.length ≤ i → J.stop i H')
theorem walks_list {C : Hp → Hp → Prop} {K : PySem.W.Frag} {B : Hp} {p : Addr} {vs : List V} {ds : List D} (h : ∀ G' H', C G' H' → Same G' H' ∧ SqL K H' p vs ∧ Dts K G' B H' vs ds) : Wk C K B (Itl K p) ds := fun i G' H' c => by
  obtain ⟨gh, q, hs⟩ := h G' H' c
  refine ⟨fun d e => ?_, fun hl => ⟨vs, q, by rw [hs.length]; exact hl⟩⟩
  obtain ⟨v, hv, n, hd⟩ := hs.get e
  refine ⟨⟨vs, v, q, hv⟩, fun x H'' ⟨e1, e2⟩ => ?_⟩
  subst e1
  have e3 := e2 vs q
  rw [hv] at e3
  cases e3
  exact ⟨G', Ext.refl gh, hd, n⟩
theorem walks_tup {C : Hp → Hp → Prop} {K : PySem.W.Frag} {B : Hp} {p : Addr} {vs : List V} {ds : List D} (h : ∀ G' H', C G' H' → Same G' H' ∧ SqT K H' p vs ∧ Dts K G' B H' vs ds) : Wk C K B (Itt K p) ds := fun i G' H' c => by
  obtain ⟨gh, q, hs⟩ := h G' H' c
  refine ⟨fun d e => ?_, fun hl => ⟨vs, q, by rw [hs.length]; exact hl⟩⟩
  obtain ⟨v, hv, n, hd⟩ := hs.get e
  refine ⟨⟨vs, v, q, hv⟩, fun x H'' ⟨e1, e2⟩ => ?_⟩
  subst e1
  have e3 := e2 vs q
  rw [hv] at e3
  cases e3
  exact ⟨G', Ext.refl gh, hd, n⟩
def rngD (lo : Int) (n : Nat) : List D := (List.range n).map fun i : Nat => D.int (lo + (i : Int))
theorem walks_range {C : Hp → Hp → Prop} {K : PySem.W.Frag} {B : Hp} {lo : Int} {n : Nat} (h : ∀ G' H', C G' H' → Same G' H') : Wk C K B (Itr lo n) (rngD lo n) := fun i G' H' c => by
  refine ⟨fun d e => ?_, fun hl => by show n ≤ i; simpa [rngD] using hl⟩
  have hi : i < n := by
    have := (List.getElem?_eq_some_iff.mp e).1
    simpa [rngD] using this
  have e2 : d = .int (lo + i) := by
    unfold rngD at e
    rw [List.getElem?_map, List.getElem?_range hi] at e
    exact (Option.some.inj e).symm
  subst e2
  refine ⟨hi, fun x H'' ⟨e1, e2⟩ => ?_⟩
  subst e1 e2
  exact ⟨G', Ext.refl (h G' H'' c), ⟨_, .int _⟩, by simp [D.root]⟩
def signsD (x : Str) : List D := x.cps.toList.map fun c => .str ⟨#[c]⟩
theorem walks_str {C : Hp → Hp → Prop} {K : PySem.W.Frag} {B : Hp} {x : Str} (h : ∀ G' H', C G' H' → Same G' H') : Wk C K B (Its x) (signsD x) := fun i G' H' c => by
  refine ⟨fun d e => ?_, fun hl => by show x.cps.size ≤ i; simpa [signsD] using hl⟩
  have hi : i < x.cps.size := by
    have := (List.getElem?_eq_some_iff.mp e).1
    simpa [signsD] using this
  refine ⟨hi, fun v H'' ⟨e1, cc, e2, e3⟩ => ?_⟩
  subst e1 e3
  have e4 : d = .str ⟨#[cc]⟩ := by
    unfold signsD at e
    rw [List.getElem?_map] at e
    rw [Array.getElem?_toList, e2] at e
    exact (Option.some.inj e).symm
  subst e4
  exact ⟨G', Ext.refl (h G' H'' c), ⟨_, .str _⟩, by simp [D.root]⟩
def enumD (ds : List D) : List D := (ds.zipIdx).map fun e => .tup [.int (e.2 : Nat), e.1]
theorem walks_enum {C : Hp → Hp → Prop} {K : PySem.W.Frag} {B : Hp} {p : Addr} {vs : List V} {ds : List D} (h : ∀ G' H', C G' H' → Same G' H' ∧ SqL K H' p vs ∧ Dts K G' B H' vs ds) : Wk C K B (Ite K p) (enumD ds) := fun i G' H' c => by
  obtain ⟨gh, q, hs⟩ := h G' H' c
  refine ⟨fun d e => ?_, fun hl => ⟨vs, q, by rw [hs.length]; simpa [enumD] using hl⟩⟩
  unfold enumD at e
  rw [List.getElem?_map, List.getElem?_zipIdx] at e
  cases e1 : ds[i]? with
  | none => rw [e1] at e; cases e
  | some d0 =>
    rw [e1] at e
    have e2 : d = .tup [.int (i : Nat), d0] := by simpa using (Option.some.inj e).symm
    subst e2
    obtain ⟨v, hv, n, hd⟩ := hs.get e1
    refine ⟨⟨vs, v, q, hv⟩, fun x H'' ⟨T, y, e1, e2, e3, e4⟩ => ?_⟩
    subst e1 e3
    have e5 := e4 vs q
    rw [hv] at e5
    cases e5
    have ex := Ext.layG (o := .tup [.int (i : Nat), v]) gh e2
    obtain ⟨S, hS⟩ := Dts.ext ex (Dts.cons (d := .int (i : Nat)) (by simp [D.root]) ⟨_, .int _⟩ (Dts.cons n hd Dts.nil))
    exact ⟨_, ex, ⟨_, .tup (.inl upd_same) hS⟩, by simp [D.root]⟩
/-- the items of what is walked -/
def itemsD : D → Option (List D)
  | .lst _ ds => some ds
  | .tup ds => some ds
  | .tuk ds => some ds
  | .str z => some (signsD z)
  | _ => none

theorem upQ_at {K : PySem.W.Frag} {W : WX} {f : FQ} {σ : L2.St} {H : Hp} {R : VK} {G B : Hp} {As : List V} {ρ : Plc} {d : D} (so : SOk K G B H As σ ρ) (hf : f ρ = .ok d) (k : KQ K G B H R d) : upQ K W f σ H R := ⟨G, B, As, ρ, so, by rw [hf]; exact k⟩
theorem upQT_at {K : PySem.W.Frag} {W : WX} {f : FT} {σ : L2.St} {H : Hp} {R : Bool → Hp → Prop} {G B : Hp} {As : List V} {ρ : Plc} {d : Bool} (so : SOk K G B H As σ ρ) (hf : f ρ = .ok d) (k : KT G H R d) : upQT K W f σ H R := ⟨G, B, As, ρ, so, by rw [hf]; exact k⟩
/-! ### quiet -/
abbrev FI := Plc → Out Exn (List D)
def upQI (K : PySem.W.Frag) (W : WX) (f : FI) : TI := fun σ H R => ∃ (G B : Hp) (As : List V) (ρ : Plc), SOk K G B H As σ ρ ∧ (f ρ).P (fun ds => ∀ G' H' J, Ext G H G' H' → Wk (Ext G' H') K B J ds → R J H') (EX K W G B H σ)
abbrev QI (X : Cx) (W : WX) (tg iter : Expr) (f : FI) : Prop := PI X tg iter (upQI X.K W f)
theorem piI {X : Cx} {tg e : Expr} {t t' : TI} (h : PI X tg e t) (i : ∀ σ H R, t' σ H R → t σ H R) : PI X tg e t' := ⟨fun pins s σ H R I q => h.run pins s σ H R I (i σ H R q)⟩
theorem PI.or {X : Cx} {tg e : Expr} {t t' : TI} (h : PI X tg e t) (h' : PI X tg e t') : PI X tg e (fun σ H R => t σ H R ∨ t' σ H R) := ⟨fun pins s σ H R I q => q.elim (h.run pins s σ H R I) (h'.run pins s σ H R I)⟩
section
variable {X : Cx} {W : WX} {tg a b e : Expr} {fa fb : FQ} {ga : FA} {pos p apos cpos : Pos}
def iSeq (fa : FQ) : FI := fun ρ => (fa ρ).bind fun d => ofO (itemsD d)
theorem qi_seq (h : QE X W e fa) : QI X W tg e (iSeq fa) := piI (PI.or (pi_list h) (PI.or (pi_tup h) (pi_str h))) fun σ H R ⟨G, B, As, ρ, so, q⟩ => by
  unfold iSeq at q
  cases hf : fa ρ with
  | no => rw [hf] at q; exact q.elim
  | ex x => rw [hf] at q; exact .inl ⟨G, B, As, ρ, so, by rw [hf]; exact q⟩
  | ok d =>
    rw [hf] at q
    obtain ⟨ds, e1, k⟩ := out_opt (show (ofO (itemsD d)).P _ _ from q)
    cases d with
    | lst f xs =>
      cases e1
      refine .inl (upQ_at so hf fun G1 H1 v ex hd fr => ?_)
      have so1 := so.ext ex
      obtain ⟨p, vs, rfl, hp, hs⟩ := dt_lst ex.gh so1.bh hd
      exact ⟨p, rfl, ⟨vs, hp⟩, k G1 H1 _ ex (walks_list fun G2 H2 e2 => ⟨e2.gh, e2.h.seq hp, Dts.ext e2 hs⟩)⟩
    | tup xs =>
      cases e1
      refine .inr (.inl (upQ_at so hf fun G1 H1 v ex hd fr => ?_))
      obtain ⟨p, vs, rfl, hp, _, hs⟩ := dt_tup ex.gh hd
      exact ⟨p, rfl, ⟨vs, hp⟩, k G1 H1 _ ex (walks_tup fun G2 H2 e2 => ⟨e2.gh, Same.sqT e2.h hp, Dts.ext e2 hs⟩)⟩
    | tuk xs =>
      cases e1
      refine .inr (.inl (upQ_at so hf fun G1 H1 v ex hd fr => ?_))
      obtain ⟨p, vs, rfl, hp, hs⟩ := dt_tuk ex.gh hd
      exact ⟨p, rfl, ⟨vs, hp⟩, k G1 H1 _ ex (walks_tup fun G2 H2 e2 => ⟨e2.gh, Same.sqT e2.h hp, Dts.ext e2 hs⟩)⟩
    | str z =>
      cases e1
      refine .inr (.inr (upQ_at so hf fun G1 H1 v ex hd fr => ?_))
      exact ⟨z, dt_str hd, k G1 H1 _ ex (walks_str fun G2 H2 e2 => e2.gh)⟩
    | _ => cases e1
def okR (i : Int) : Prop := -(2 ^ 62) ≤ i ∧ i < 2 ^ 62
instance (i : Int) : Decidable (okR i) := by unfold okR; infer_instance
def rng1 : List D → Option (List D)
  | [.int j] => if okR j then some (rngD 0 j.toNat) else none
  | _ => none
def rng2 : List D → Option (List D)
  | [.int i, .int j] => if okR i ∧ okR j then some (rngD i (j - i).toNat) else none
  | _ => none
def iRange (r : List D → Option (List D)) (ga : FA) : FI := fun ρ => (ga ρ).bind fun xs => ofO (r xs)
theorem rng1_dt {K : PySem.W.Frag} {G B H : Hp} {xs : List V} {es ds : List D} (e1 : rng1 es = some ds) (hd : Dta K G B H xs es) : ∃ j : Int, xs = [.int j] ∧ okR j ∧ ds = rngD 0 j.toNat := by
  unfold rng1 at e1
  split at e1
  · obtain ⟨v, rfl, hv⟩ := dts1 hd
    split at e1
    · rename_i hc
      cases e1
      exact ⟨_, by rw [dt_int hv], hc, rfl⟩
    · cases e1
  · cases e1
theorem rng2_dt {K : PySem.W.Frag} {G B H : Hp} {xs : List V} {es ds : List D} (e1 : rng2 es = some ds) (hd : Dta K G B H xs es) : ∃ i j : Int, xs = [.int i, .int j] ∧ okR i ∧ okR j ∧ ds = rngD i (j - i).toNat := by
  unfold rng2 at e1
  split at e1
  · obtain ⟨v, w, rfl, hv, hw⟩ := dts2 hd
    split at e1
    · rename_i hc
      cases e1
      exact ⟨_, _, by rw [dt_int hv, dt_int hw], hc.1, hc.2, rfl⟩
    · cases e1
  · cases e1
theorem qi_range1 (hm : X.mg "range" = none) (ha : QA X W [a] ga) (hg : Gl X "range" := by rfl) (hs : starEach [a] X.env = [(false, eval a X.env)] := by rfl) : QI X W tg (.Call (.Name "range" p) [a] [] pos) (iRange rng1 ga) := piI (pi_range1 hg hm ha hs) fun σ H R ⟨G, B, As, ρ, so, q⟩ =>
  ⟨G, B, As, ρ, so, Out.P_mono (Out.P_bind.mp q) (fun xs q1 G1 H1 vs ex hd _ => by
    obtain ⟨ds, e1, k⟩ := out_opt q1
    obtain ⟨j, rfl, hj, rfl⟩ := rng1_dt e1 hd
    exact ⟨j, rfl, hj.1, hj.2, k G1 H1 _ ex (walks_range fun G2 H2 e2 => e2.gh)⟩) fun _ z => z⟩
theorem qi_range2 (hm : X.mg "range" = none) (ha : QA X W [a, b] ga) (hg : Gl X "range" := by rfl) (hs : starEach [a, b] X.env = [(false, eval a X.env), (false, eval b X.env)] := by rfl) (hs2 : starEach [b] X.env = [(false, eval b X.env)] := by rfl) : QI X W tg (.Call (.Name "range" p) [a, b] [] pos) (iRange rng2 ga) := piI (pi_range2 hg hm ha hs hs2) fun σ H R ⟨G, B, As, ρ, so, q⟩ =>
  ⟨G, B, As, ρ, so, Out.P_mono (Out.P_bind.mp q) (fun xs q1 G1 H1 vs ex hd _ => by
    obtain ⟨ds, e1, k⟩ := out_opt q1
    obtain ⟨i, j, rfl, hi, hj, rfl⟩ := rng2_dt e1 hd
    exact ⟨i, j, rfl, ⟨hi.1, hi.2, hj.1, hj.2⟩, k G1 H1 _ ex (walks_range fun G2 H2 e2 => e2.gh)⟩) fun _ z => z⟩
def enum1 : List D → Option (List D)
  | [.lst _ ds] => some (enumD ds)
  | _ => none
theorem qi_enum {elts : List Expr} {kk : Nat} {tpos : Pos} (hm : X.mg "enumerate" = none) (ha : QA X W [e] ga) (hg : Gl X "enumerate" := by rfl) (hs : starEach [e] X.env = [(false, eval e X.env)] := by rfl) : QI X W (.Tuple elts kk tpos) (.Call (.Name "enumerate" p) [e] [] pos) (iRange enum1 ga) := piI (pi_enum hg hm ha hs) fun σ H R ⟨G, B, As, ρ, so, q⟩ =>
  ⟨G, B, As, ρ, so, Out.P_mono (Out.P_bind.mp q) (fun xs q1 G1 H1 vs ex hd _ => by
    obtain ⟨ds, e1, k⟩ := out_opt q1
    unfold enum1 at e1
    split at e1
    · cases e1
      obtain ⟨v, rfl, hv⟩ := dts1 hd
      obtain ⟨p, vs, rfl, hp, hs⟩ := dt_lst ex.gh (so.ext ex).bh hv
      exact ⟨p, vs, rfl, hp, k G1 H1 _ ex (walks_enum fun G2 H2 e2 => ⟨e2.gh, e2.h.seq hp, Dts.ext e2 hs⟩)⟩
    · cases e1) fun _ z => z⟩
end
/-! the comprehension's own names -/
mutual
def Tg.vars : Tg → List Nat
  | .nm i => [i]
  | .tp ts => Tg.varsL ts
def Tg.varsL : List Tg → List Nat
  | [] => []
  | t :: ts => Tg.vars t ++ Tg.varsL ts
end
theorem wipe_set {σ : L2.St} {i : Nat} {x : Option V} : ∀ {vs : List Nat}, i ∈ vs → wipe (σ.set i x) vs = wipe σ vs
  | [], h => by simp at h
  | v :: vs, h => by
    show (wipe (σ.set i x) vs).set v none = (wipe σ vs).set v none
    by_cases hi : i ∈ vs
    · rw [wipe_set hi]
    · have e : i = v := by simpa [hi] using h
      subst e
      have key : ∀ (vs : List Nat), i ∉ vs → wipe (σ.set i x) vs = (wipe σ vs).set i x := by
        intro vs
        induction vs with
        | nil => intro _; rfl
        | cons w ws ih =>
          intro hn
          have h1 : i ≠ w := fun e => hn (by simp [e])
          have h2 : i ∉ ws := fun e => hn (by simp [e])
          show (wipe (σ.set i x) ws).set w none = ((wipe σ ws).set w none).set i x
          rw [ih h2, List.set_comm _ _ h1]
      rw [key vs hi, List.set_set]
theorem wipe_wipe {σ : L2.St} : ∀ {vs : List Nat}, wipe (wipe σ vs) vs = wipe σ vs := by
  intro vs
  have key : ∀ (ws : List Nat), (∀ w ∈ ws, w ∈ vs) → wipe (wipe σ ws) vs = wipe σ vs := by
    intro ws
    induction ws with
    | nil => intro _; rfl
    | cons w ws ih =>
      intro h
      show wipe ((wipe σ ws).set w none) vs = _
      rw [wipe_set (h w (by simp)), ih fun x hx => h x (by simp [hx])]
  exact key vs fun _ h => h
theorem SOk.set {K : PySem.W.Frag} {G B H : Hp} {As : List V} {σ : L2.St} {ρ : Plc} {i : Nat} {v : V} {d : D} (s : SOk K G B H As σ ρ) (hd : Dt K G B H v d) (n : d.old) : SOk K G B H As (σ.set i (some v)) (ρ.setS i (.val d)) :=
  ⟨s.gh, s.bh, by simp [Plc.setS, s.len], fun j e q => by
    simp only [Plc.setS, List.getElem?_set] at q
    by_cases hij : i = j
    · subst hij
      by_cases hl : i < ρ.s.length
      · rw [if_pos rfl, if_pos hl] at q
        cases q
        exact ⟨n, v, by rw [List.getElem?_set, if_pos rfl, if_pos (by rw [← s.len]; exact hl)], hd⟩
      · rw [if_pos rfl, if_neg hl] at q; cases q
    · rw [if_neg hij] at q
      obtain ⟨n', w, h1, h2⟩ := s.at' j e q
      exact ⟨n', w, by rw [List.getElem?_set, if_neg hij]; exact h1, h2⟩, fun j k q => by
    simp only [Plc.setS, List.getElem?_set] at q
    by_cases hij : i = j
    · subst hij
      by_cases hl : i < ρ.s.length
      · rw [if_pos rfl, if_pos hl] at q; cases q
      · rw [if_pos rfl, if_neg hl] at q; cases q
    · rw [if_neg hij] at q
      obtain ⟨w, h1, h2⟩ := s.arg j k q
      exact ⟨w, by rw [List.getElem?_set, if_neg hij]; exact h1, h2⟩, s.ar⟩
theorem SOk.wipe1 {K : PySem.W.Frag} {G B H : Hp} {As : List V} {σ : L2.St} {ρ : Plc} {i : Nat} (s : SOk K G B H As σ ρ) : SOk K G B H As (σ.set i none) (ρ.setS i .no) :=
  ⟨s.gh, s.bh, by simp [Plc.setS, s.len], fun j e q => by
    simp only [Plc.setS, List.getElem?_set] at q
    by_cases hij : i = j
    · subst hij
      by_cases hl : i < ρ.s.length
      · rw [if_pos rfl, if_pos hl] at q; cases q
      · rw [if_pos rfl, if_neg hl] at q; cases q
    · rw [if_neg hij] at q
      obtain ⟨n', w, h1, h2⟩ := s.at' j e q
      exact ⟨n', w, by rw [List.getElem?_set, if_neg hij]; exact h1, h2⟩, fun j k q => by
    simp only [Plc.setS, List.getElem?_set] at q
    by_cases hij : i = j
    · subst hij
      by_cases hl : i < ρ.s.length
      · rw [if_pos rfl, if_pos hl] at q; cases q
      · rw [if_pos rfl, if_neg hl] at q; cases q
    · rw [if_neg hij] at q
      obtain ⟨w, h1, h2⟩ := s.arg j k q
      exact ⟨w, by rw [List.getElem?_set, if_neg hij]; exact h1, h2⟩, s.ar⟩
/-- the comprehension's slots are forgotten, in wipe's order -/
def Plc.wipe (ρ : Plc) : List Nat → Plc
  | [] => ρ
  | v :: vs => (Plc.wipe ρ vs).setS v .no
theorem SOk.wipe {K : PySem.W.Frag} {G B H : Hp} {As : List V} {σ : L2.St} {ρ : Plc} (s : SOk K G B H As σ ρ) : ∀ vs : List Nat, SOk K G B H As (L2.wipe σ vs) (ρ.wipe vs)
  | [] => s
  | v :: vs => (SOk.wipe s vs).wipe1
mutual
theorem Tg.okQ {K : PySem.W.Frag} {G B H : Hp} {As : List V} {vs : List Nat} : ∀ (tg : Tg) {σ : L2.St} {ρ ρ' : Plc} {v : V} {d : D} {R : L2.St → Hp → Prop}, (∀ i ∈ tg.vars, i ∈ vs) → SOk K G B H As σ ρ → Dt K G B H v d → d.old → Tg.put tg d ρ = some ρ' →
    (∀ σ', SOk K G B H As σ' ρ' → wipe σ' vs = wipe σ vs → R σ' H) → Tg.rd K tg v σ H R
  | .nm i, σ, ρ, ρ', v, d, R, sub, s, hd, n, e, k => by
    simp only [Tg.put, Option.some.injEq] at e
    subst e
    exact k _ (s.set hd n) (wipe_set (sub i (by simp [Tg.vars])))
  | .tp ts, σ, ρ, ρ', v, d, R, sub, s, hd, n, e, k => by
    cases d with
    | tup ds =>
      obtain ⟨p, ws, rfl, hp, _, hs⟩ := dt_tup s.gh hd
      simp only [Tg.put] at e
      exact ⟨_, _, rfl, hp, hs.length.trans (Tg.puts_len ts ds e), Tg.oksQ ts (by simpa [Tg.vars] using sub) s hs e k⟩
    | _ => simp [Tg.put] at e
theorem Tg.oksQ {K : PySem.W.Frag} {G B H : Hp} {As : List V} {vs : List Nat} : ∀ (ts : List Tg) {σ : L2.St} {ρ ρ' : Plc} {ws : List V} {ds : List D} {R : L2.St → Hp → Prop}, (∀ i ∈ Tg.varsL ts, i ∈ vs) → SOk K G B H As σ ρ → Dts K G B H ws ds → Tg.puts ts ds ρ = some ρ' →
    (∀ σ', SOk K G B H As σ' ρ' → wipe σ' vs = wipe σ vs → R σ' H) → Tg.rds K ts ws σ H R
  | [], σ, ρ, ρ', ws, ds, R, sub, s, hs, e, k => by
    cases ds with
    | nil =>
      cases ws with
      | nil => simp only [Tg.puts, Option.some.injEq] at e; subst e; exact ⟨rfl, k _ s rfl⟩
      | cons _ _ => have := hs.length; simp at this
    | cons _ _ => simp [Tg.puts] at e
  | tg :: ts, σ, ρ, ρ', ws, ds, R, sub, s, hs, e, k => by
    cases ds with
    | nil => simp [Tg.puts] at e
    | cons d ds =>
      cases ws with
      | nil => have := hs.length; simp at this
      | cons w ws =>
        obtain ⟨n, h, hs⟩ := hs.uncons
        simp only [Tg.puts] at e
        cases e1 : Tg.put tg d ρ with
        | none => rw [e1] at e; cases e
        | some ρ1 =>
          rw [e1] at e
          exact ⟨_, _, rfl, Tg.okQ tg (fun i m => sub i (by simp [Tg.varsL, m])) s h n e1 fun σ' s' w' => Tg.oksQ ts (fun i m => sub i (by simp [Tg.varsL, m])) s' hs e fun σ2 s2 w2 => k σ2 s2 (w2.trans w')⟩
end
/-- one turn, then the rest -/
def compV (tg : Tg) (tt : FT) (te : FQ) (ρ : Plc) : List D → Out Exn (List D)
  | [] => .ok []
  | d :: ds => match tg.put d ρ with
    | none => .no
    | some ρ1 => (tt ρ1).pure.bind fun b => if b = true then (te ρ1).pure.bind fun y => if y.st.noOwn = true then (compV tg tt te ρ ds).bind fun ys => .ok (y.st :: ys) else .no else compV tg tt te ρ ds
def tYes : FT := fun _ => .ok true
abbrev W0 : WX := fun _ _ _ _ => False
abbrev QTs (X : Cx) (W : WX) (ifs : List Expr) (f : FT) : Prop := PTs X ifs (upQT X.K W f)
def mkLc (ys : List D) : Out Exn D := if ys.length ≤ sizeLine then .ok (.lst .new ys) else .no
def qLc (fi : FI) (tg : Tg) (tt : FT) (te : FQ) (vs : List Nat) : FQ := fun ρ => (fi ρ).bind fun ds => (compV tg tt te (ρ.wipe vs) ds).bind mkLc
section
variable {X : Cx} {W : WX} {pos : Pos}
theorem qts_nil : QTs X W [] tYes := ⟨fun pins s σ H R I ⟨G, B, As, ρ, so, q⟩ => pts_nil.run pins s σ H R I (q G H (Ext.refl so.gh))⟩
theorem qts_one {c : Expr} {t : FT} (h : QT X W c t) : QTs X W [c] t := pts_one h
theorem compV_inv {tg : Tg} {tt : FT} {te : FQ} {ρ : Plc} {d : D} {ds rest : List D} (h : compV tg tt te ρ (d :: ds) = .ok rest) : ∃ ρ1 b, tg.put d ρ = some ρ1 ∧ tt ρ1 = .ok b ∧ ((b = false ∧ compV tg tt te ρ ds = .ok rest) ∨ ∃ y ys, b = true ∧ te ρ1 = .ok y ∧ y.st.noOwn = true ∧ compV tg tt te ρ ds = .ok ys ∧ rest = y.st :: ys) := by
  simp only [compV] at h
  cases e : tg.put d ρ with
  | none => rw [e] at h; cases h
  | some ρ1 =>
    rw [e] at h
    simp only at h
    cases e2 : tt ρ1 with
    | no => rw [e2] at h; cases h
    | ex x => rw [e2] at h; cases h
    | ok b =>
      rw [e2] at h
      simp only [Out.pure, Out.bind] at h
      cases b with
      | false => exact ⟨ρ1, false, rfl, e2, .inl ⟨rfl, by simpa using h⟩⟩
      | true =>
        simp only [if_true] at h
        cases e3 : te ρ1 with
        | no => rw [e3] at h; cases h
        | ex x => rw [e3] at h; cases h
        | ok y =>
          rw [e3] at h
          simp only at h
          by_cases hn : y.st.noOwn = true
          · rw [if_pos hn] at h
            cases e4 : compV tg tt te ρ ds with
            | no => rw [e4] at h; cases h
            | ex x => rw [e4] at h; cases h
            | ok ys =>
              rw [e4] at h
              cases h
              exact ⟨ρ1, true, rfl, e2, .inr ⟨y, ys, rfl, e3, hn, rfl, rfl⟩⟩
          · rw [if_neg hn] at h; cases h
theorem compV_noex {tg : Tg} {tt : FT} {te : FQ} {ρ : Plc} : ∀ {ds : List D} {x : Exn}, compV tg tt te ρ ds ≠ .ex x
  | [], _, h => by cases h
  | d :: ds, x, h => by
    simp only [compV] at h
    cases e : tg.put d ρ with
    | none => rw [e] at h; cases h
    | some ρ1 =>
      rw [e] at h
      simp only at h
      cases e2 : tt ρ1 with
      | no => rw [e2] at h; cases h
      | ex y => rw [e2] at h; cases h
      | ok b =>
        rw [e2] at h
        simp only [Out.pure, Out.bind] at h
        cases b with
        | false => exact compV_noex (by simpa using h)
        | true =>
          simp only [if_true] at h
          cases e3 : te ρ1 with
          | no => rw [e3] at h; cases h
          | ex y => rw [e3] at h; cases h
          | ok y =>
            rw [e3] at h
            simp only at h
            by_cases hn : y.st.noOwn = true
            · rw [if_pos hn] at h
              cases e4 : compV tg tt te ρ ds with
              | no => rw [e4] at h; cases h
              | ex y => exact compV_noex e4
              | ok ys => rw [e4] at h; cases h
            · rw [if_neg hn] at h; cases h
theorem Dats.app0 {K : PySem.W.Frag} {G B H : Hp} {vs ws : List V} {ds es : List D} (h : Dats K G B H [] vs ds) (h' : Dats K G B H [] ws es) (n1 : D.allFL ownF ds = true) (n2 : D.allFL ownF es = true) : Dats K G B H [] (vs ++ ws) (ds ++ es) := by
  obtain ⟨S, q⟩ := Dts.append ⟨_, h⟩ ⟨_, h'⟩
  have := Dats.noS q (by rw [allFL_eq, List.all_append, ← allFL_eq, ← allFL_eq, n1, n2] <;> rfl)
  rw [this] at q
  exact q
theorem lc_ok {K : PySem.W.Frag} {G B : Hp} {As : List V} {H1 : Hp} {σ : L2.St} {ρ : Plc} {tg : Tg} {tt : FT} {te : FQ} {vs : List Nat} {J : It} {ds ys : List D} {Qf : Addr → Hp → Prop}
    (sub : ∀ i ∈ tg.vars, i ∈ vs) (so : SOk K G B H1 As σ ρ) (wk : Wk (Ext G H1) K B J ds) (q : compV tg tt te (ρ.wipe vs) ds = .ok ys) (hz : ys.length ≤ sizeLine)
    (k : ∀ (L : Addr) (G' H' : Hp) (us : List V), H1 L = none → Ext G H1 G' H' → G' L = none → H' L = some (.lst us) → Dats K G' B H' [] us ys → Qf L H') :
    ∀ L, H1 L = none → ∃ Wv : Nat → Nat → Hp → Prop, (∃ m, Wv 0 m (upd H1 L (.lst []))) ∧ ∀ i m H, Wv i m H →
      (J.stop i H ∧ Qf L H) ∨ (J.go i H ∧ ∃ Nx : Hp → Prop, (∀ H', Nx H' → ∃ m', m' < m ∧ Wv (i + 1) m' H') ∧ ∀ x H', J.yld i H x H' → Tg.rd K tg x (wipe σ vs) H' fun σ2 H2 => wipe σ2 vs = wipe σ vs ∧ upQT K W0 tt σ2 H2 fun b H3 =>
        if b = true then upQ K W0 te σ2 H3 fun y H4 => ∃ acc, H4 L = some (.lst acc) ∧ acc.length < sizeLine ∧ Nx (upd H4 L (.lst (acc ++ [y]))) else Nx H3) := by
  intro L hL
  refine ⟨fun i m H => m = ds.length - i ∧ i ≤ ds.length ∧ ∃ G' us acc rest, Ext G H1 G' H ∧ G' L = none ∧ H L = some (.lst us) ∧ Dats K G' B H [] us acc ∧ D.allFL ownF acc = true ∧ compV tg tt te (ρ.wipe vs) (ds.drop i) = .ok rest ∧ acc ++ rest = ys, ⟨ds.length, by simp, Nat.zero_le _, G, [], [], ys, Ext.lay so.gh hL, Same.free so.gh hL, upd_same, .nil, rfl, q, rfl⟩, ?_⟩
  rintro i m H ⟨rfl, hle, G', us, acc, rest, ex, gL, hHL, hd, hno, hc, hy⟩
  obtain ⟨w1, w2⟩ := wk i G' H ex
  by_cases hi : i < ds.length
  · obtain ⟨go, yl⟩ := w1 ds[i] (by simp [hi])
    rw [List.drop_eq_getElem_cons hi] at hc
    obtain ⟨ρ1, b, e1, e2, hcc⟩ := compV_inv hc
    refine .inr ⟨go, fun H2 => ∃ G2 us2 acc2 rest2, Ext G H1 G2 H2 ∧ G2 L = none ∧ H2 L = some (.lst us2) ∧ Dats K G2 B H2 [] us2 acc2 ∧ D.allFL ownF acc2 = true ∧ compV tg tt te (ρ.wipe vs) (ds.drop (i + 1)) = .ok rest2 ∧ acc2 ++ rest2 = ys, fun H2 z => ⟨ds.length - (i + 1), by omega, rfl, hi, z⟩, fun x H'' y => ?_⟩
    obtain ⟨G2, ex2, d2, n2⟩ := yl x H'' y
    have so2 := so.ext (ex.trans ex2)
    have stepL : ∀ {Ga Ha Gb Hb : Hp}, Ext Ga Ha Gb Hb → Ga L = none → Ha L = some (.lst us) → Gb L = none ∧ Hb L = some (.lst us) := fun {Ga Ha Gb Hb} e g h => by
      refine ⟨?_, e.h L _ h⟩
      cases z : Gb L with
      | none => rfl
      | some u =>
        rcases e.new L u z with z | z
        · rw [g] at z; cases z
        · rw [h] at z; cases z
    obtain ⟨gL2, hL2⟩ := stepL ex2 gL hHL
    refine Tg.okQ tg sub (so2.wipe vs) d2 n2 e1 fun σ3 so3 e3 => ⟨by rw [e3, wipe_wipe], ?_⟩
    refine upQT_at so3 e2 fun G4 H4 ex4 => ?_
    obtain ⟨gL4, hL4⟩ := stepL ex4 gL2 hL2
    have hd4 : Dats K G4 B H4 [] us acc := hd.mono (fun p o e => (ex2.trans ex4).g p o e) (fun _ _ q => q) (fun a m => by cases m)
    rcases hcc with ⟨rfl, hc⟩ | ⟨y, zs, rfl, e5, hn, hc2, rfl⟩
    · exact iteF ⟨G4, us, acc, rest, (ex.trans ex2).trans ex4, gL4, hL4, hd4, hno, hc, hy⟩
    · refine iteT (upQ_at (so3.ext ex4) e5 fun G5 H5 v ex5 hv fr => ?_)
      obtain ⟨ex6, sm⟩ := grab_ext ex5
      have hv6 := st_dt ex5 hv fr
      obtain ⟨gL6, hL6⟩ := stepL ex6 gL4 hL4
      refine ⟨us, hL6, ?_, ?_⟩
      · have l1 := hd.length
        have : (acc ++ y.st :: zs).length = ys.length := by rw [hy]
        rw [List.length_append, List.length_cons] at this
        rw [l1]; omega
      · obtain ⟨S6, hv6⟩ := hv6
        have s6 := hv6.noS hn
        subst s6
        have exL := ((ex.trans ex2).trans ex4).trans ex6
        refine ⟨_, us ++ [v], acc ++ [y.st], zs, ⟨fun p o e => ?_, exL.g, exL.new, fun p o e => ?_⟩, gL6, upd_same, ?_, ?_, hc2, by rw [← hy]; simp⟩
        · rw [upd_ne (ne_of_none e hL)]; exact exL.h p o e
        · rw [upd_ne (ne_of_none e gL6)]; exact exL.gh p o e
        · refine Dats.app0 (hd4.mono (fun p o e => ex6.g p o e) (fun _ _ q => q) (fun a m => by cases m)) ?_ hno (by simp [D.allFL, hn])
          have := Dats.cons (K := K) (B := B) (st_old y) (hv6.mono (H' := upd H5 L (.lst (us ++ [v]))) (fun _ _ q => q) (fun _ _ q => q) (fun a m => by cases m)) .nil
          exact this
        · rw [allFL_eq, List.all_append, ← allFL_eq, hno]
          simp [hn]
  · rw [List.drop_of_length_le (by omega)] at hc
    cases hc
    rw [List.append_nil] at hy
    subst hy
    exact .inl ⟨w2 (by omega), k L G' H us hL ex gL hHL hd⟩
variable {elt tg' iter : Expr} {ifs : List Expr} {scope : Scope} {own : List (Str × Nat)} {fi : FI} {tg : Tg} {tt : FT} {te : FQ}
theorem lc_up {σ : L2.St} {H : Hp} {R : VK} (sub : ∀ i ∈ tg.vars, i ∈ own.map (·.2)) (h : upQ X.K W (qLc fi tg tt te (own.map (·.2))) σ H R) : tLc (upQI X.K W fi) (Tg.rd X.K tg) (upQT X.K W0 tt) (upQ X.K W0 te) (own.map (·.2)) σ H R := by
  obtain ⟨G, B, As, ρ, so, q⟩ := h
  refine ⟨G, B, As, ρ, so, Out.P_mono (Out.P_bind.mp q) (fun ds q1 G1 H1 J ex wk => ?_) fun _ z => z⟩
  cases e : compV tg tt te (ρ.wipe (own.map (·.2))) ds with
  | no => rw [e] at q1; exact q1.elim
  | ex x => exact absurd e compV_noex
  | ok ys =>
    rw [e] at q1
    obtain ⟨hz, k⟩ := Out.P_if (show (mkLc ys).P _ _ from q1)
    exact lc_ok sub (so.ext ex) wk e hz fun L G' H' us hL ex' gL hL' hd => k G' H' (.ref L) (ex.trans ex') ⟨_, .lst (f := .new) hL' hd⟩ fun _ => ⟨L, rfl, Same.free ex.h hL, gL⟩
theorem qe_lc (hc : X.calm = true) (hN : X.N.Nodup) (hi : QI X W tg' iter fi) (ok : BlkOk X.N X.env.scope scope own) (sub : ∀ i ∈ tg.vars, i ∈ own.map (·.2))
    (hg : ∀ (s : Shared) (H : Hp) (C : Addr) (cl : List (Str × Addr)) (fp : List Addr), PG (X.blk s H scope (compEnvC scope cl C X.env) fp) tg' (Tg.rd X.K tg)) (ht : ∀ (s : Shared) (H : Hp) (C : Addr) (cl : List (Str × Addr)) (fp : List Addr), QTs (X.blk s H scope (compEnvC scope cl C X.env) fp) W0 ifs tt)
    (he : ∀ (s : Shared) (H : Hp) (C : Addr) (cl : List (Str × Addr)) (fp : List Addr), QE (X.blk s H scope (compEnvC scope cl C X.env) fp) W0 elt te) (hs : ∀ x, foldedSetIterable iter X.env x = pure x := by intro _; rfl) :
    QE X W (.ListComp elt [⟨tg', iter, ifs, 0⟩] scope pos) (qLc fi tg tt te (own.map (·.2))) := peI (pe_lc hc hN hi ok hg ht he hs) fun σ H R h => lc_up sub h
theorem vs_setLc {i : Nat} {y : Str} {py spos : Pos} (hc : X.calm = true) (hN : X.N.Nodup) (hy : X.N[i]? = some y) (hyl : X.env.scope.names.lookup y = some .local) (hsw : swapsWith (.ListComp elt [⟨tg', iter, ifs, 0⟩] scope pos) (some (.Name y py)) spos.line X.env = pure true)
    (hi : QI X W tg' iter fi) (ok : BlkOk X.N X.env.scope scope own) (sub : ∀ i ∈ tg.vars, i ∈ own.map (·.2))
    (hg : ∀ (s : Shared) (H : Hp) (C : Addr) (cl : List (Str × Addr)) (fp : List Addr), PG (X.blk s H scope (compEnvC scope cl C X.env) fp) tg' (Tg.rd X.K tg)) (ht : ∀ (s : Shared) (H : Hp) (C : Addr) (cl : List (Str × Addr)) (fp : List Addr), QTs (X.blk s H scope (compEnvC scope cl C X.env) fp) W0 ifs tt)
    (he : ∀ (s : Shared) (H : Hp) (C : Addr) (cl : List (Str × Addr)) (fp : List Addr), QE (X.blk s H scope (compEnvC scope cl C X.env) fp) W0 elt te) (hs : ∀ x, foldedSetIterable iter X.env x = pure x := by intro _; rfl) :
    VS X W (.Assign [.Name y py] (.ListComp elt [⟨tg', iter, ifs, 0⟩] scope pos) spos) (sSet i (gQ (qLc fi tg tt te (own.map (·.2))))) := psI (ps_setLc hc hN hy hyl hsw hi ok hg ht he hs) fun E σ H ⟨G, B, Φ, As, S, ρ, rp, q⟩ =>
  lc_up (R := fun v H' => E.nx (σ.set i (some v)) H') sub (gq_up (seqE_G rp q fun d ρ1 G1 H1 S1 v T s1 r1 hd n t q1 => q1 G1 H1 _ _ s1 (r1.set hd n t)))
end
end VL

/-! VLl: loops of statements. -/
namespace VL
open PySem PySem.Spec PyProof.Rows L2

mutual
theorem fz_noOwn : ∀ d : D, d.fz.noOwn = true
  | .tup xs => by simp only [D.fz, D.mapF, D.noOwn, D.allF]; exact fzL_noOwn xs
  | .tuk xs => by simp only [D.fz, D.mapF, D.noOwn, D.allF]; exact fzL_noOwn xs
  | .lst f xs => by
    simp only [D.fz, D.mapF, D.noOwn, D.allF, Bool.and_eq_true]
    exact ⟨by cases f <;> rfl, fzL_noOwn xs⟩
  | .dic f xs => by
    simp only [D.fz, D.mapF, D.noOwn, D.allF, Bool.and_eq_true]
    exact ⟨by cases f <;> rfl, fzK_noOwn xs⟩
  | .dit f xs => by
    simp only [D.fz, D.mapF, D.noOwn, D.allF, Bool.and_eq_true]
    exact ⟨by cases f <;> rfl, fzK_noOwn xs⟩
  | .obj f C xs => by
    simp only [D.fz, D.mapF, D.noOwn, D.allF, Bool.and_eq_true]
    exact ⟨by cases f <;> rfl, fzK_noOwn xs⟩
  | .non => rfl
  | .bl _ => rfl
  | .int _ => rfl
  | .str _ => rfl
  | .ty _ => rfl
  | .ref _ => rfl
theorem fzL_noOwn : ∀ ds : List D, D.allFL ownF (D.mapFL fzF ds) = true
  | [] => rfl
  | d :: ds => by rw [D.mapFL, D.allFL, fzL_noOwn ds]; exact (Bool.and_true _).trans (fz_noOwn d)
theorem fzK_noOwn : ∀ ds : List (Kd × D), D.allFK ownF (D.mapFK fzF ds) = true
  | [] => rfl
  | (k, d) :: ds => by rw [D.mapFK, D.allFK, fzK_noOwn ds]; exact (Bool.and_true _).trans (fz_noOwn d)
end
theorem ad_own {f : Fl} {p : Addr} (h : f.ad p = []) : ownF f = true := by cases f <;> first | rfl | cases h
mutual
theorem Dat.own0 {K : PySem.W.Frag} {G B H : Hp} : ∀ {S : List Addr} {v : V} {d : D}, Dat K G B H S v d → S = [] → d.noOwn = true
  | _, _, _, .non, _ => rfl
  | _, _, _, .bl b, _ => rfl
  | _, _, _, .int i, _ => rfl
  | _, _, _, .str x, _ => rfl
  | _, _, _, .ty n, _ => rfl
  | _, _, _, .ref a, _ => rfl
  | _, _, _, .tup h hs, e => by simpa [D.noOwn, D.allF] using Dats.own0 hs e
  | _, _, _, .tuk h hs, e => by simpa [D.noOwn, D.allF] using Dats.own0 hs e
  | _, _, _, .lst h hs, e => by
    simp only [D.noOwn, D.allF, Bool.and_eq_true]
    exact ⟨ad_own (List.append_eq_nil_iff.mp e).1, Dats.own0 hs (List.append_eq_nil_iff.mp e).2⟩
  | _, _, _, .lok h hs, e => by
    simp only [D.noOwn, D.allF, Bool.and_eq_true]
    exact ⟨rfl, Dats.own0 hs e⟩
  | _, _, _, .dic h hs, e => by
    simp only [D.noOwn, D.allF, Bool.and_eq_true]
    exact ⟨ad_own (List.append_eq_nil_iff.mp e).1, DatM.own0 hs (List.append_eq_nil_iff.mp e).2⟩
  | _, _, _, .dit h hs, e => by
    simp only [D.noOwn, D.allF, Bool.and_eq_true]
    exact ⟨ad_own (List.append_eq_nil_iff.mp e).1, DatM.own0 hs (List.append_eq_nil_iff.mp e).2⟩
  | _, _, _, .obj h hs, e => by
    simp only [D.noOwn, D.allF, Bool.and_eq_true]
    exact ⟨ad_own (List.append_eq_nil_iff.mp e).1, DatM.own0 hs (List.append_eq_nil_iff.mp e).2⟩
theorem Dats.own0 {K : PySem.W.Frag} {G B H : Hp} : ∀ {S : List Addr} {v : List V} {d : List D}, Dats K G B H S v d → S = [] → D.allFL ownF d = true
  | _, _, _, .nil, _ => rfl
  | _, _, _, .cons _ h t, e => by
    rw [D.allFL, Bool.and_eq_true]
    exact ⟨Dat.own0 h (List.append_eq_nil_iff.mp e).1, Dats.own0 t (List.append_eq_nil_iff.mp e).2⟩
theorem DatM.own0 {K : PySem.W.Frag} {G B H : Hp} : ∀ {S : List Addr} {v : List (Kd × V)} {d : List (Kd × D)}, DatM K G B H S v d → S = [] → D.allFK ownF d = true
  | _, _, _, .nil, _ => rfl
  | _, _, _, .cons _ h t, e => by
    rw [D.allFK, Bool.and_eq_true]
    exact ⟨Dat.own0 h (List.append_eq_nil_iff.mp e).1, DatM.own0 t (List.append_eq_nil_iff.mp e).2⟩
end
theorem items_noOwn {d : D} {ds : List D} (n : d.noOwn = true) (h : itemsD d = some ds) : D.allFL ownF ds = true := by
  cases d with
  | lst f xs => cases h; simp only [D.noOwn, D.allF, Bool.and_eq_true] at n; exact n.2
  | tup xs => cases h; simpa [D.noOwn, D.allF] using n
  | tuk xs => cases h; simpa [D.noOwn, D.allF] using n
  | str z =>
    cases h
    rw [allFL_eq, List.all_eq_true]
    intro d hd
    obtain ⟨c, _, rfl⟩ := List.mem_map.mp hd
    rfl
  | _ => cases h
/-! ### what is walked while places change -/
abbrev FGI := Plc → Out (Exn × Plc) (List D × Plc)
def Stay (G B : Hp) : Hp → Hp → Prop := fun G2 H2 => Same G G2 ∧ Same G2 H2 ∧ Same B H2
def GKI (K : PySem.W.Frag) (G B Φ : Hp) (As : List V) (σ : L2.St) (R : It → Hp → Prop) (x : List D × Plc) : Prop := ∀ G' H' S' J, Same G G' → VRep K G' B Φ H' As S' σ x.2 → Wk (Stay G' B) K B J x.1 → D.allFL ownF x.1 = true → R J H'
def upGI (K : PySem.W.Frag) (W : WX) (f : FGI) : TI := fun σ H R => ∃ (G B Φ : Hp) (As : List V) (S : Pi → List Addr) (ρ : Plc), VRep K G B Φ H As S σ ρ ∧ (f ρ).P (GKI K G B Φ As σ R) (GX K W G B Φ As σ)
abbrev GI (X : Cx) (W : WX) (tg iter : Expr) (f : FGI) : Prop := PI X tg iter (upGI X.K W f)
def ofOG {α : Type} (o : Option α) (ρ : Plc) : Out (Exn × Plc) (α × Plc) := match o with
  | some a => .ok (a, ρ)
  | none => .no
theorem outG_opt {α : Type} {o : Option α} {ρ : Plc} {P : α × Plc → Prop} {E : Exn × Plc → Prop} (h : (ofOG o ρ).P P E) : ∃ a, o = some a ∧ P (a, ρ) := by
  cases o with
  | none => exact h.elim
  | some a => exact ⟨a, rfl, h⟩
def giSeq (ga : FG) : FGI := fun ρ => (ga ρ).bind fun x => ofOG (itemsD x.1.fz) x.2
def giRange (r : List D → Option (List D)) (gs : FGA) : FGI := fun ρ => (gs ρ).bind fun x => ofOG (r x.1) x.2
section
variable {X : Cx} {W : WX} {tg a b e : Expr} {ga : FG} {gs : FGA} {pos p apos cpos : Pos}
theorem upG_at {K : PySem.W.Frag} {f : FG} {σ : L2.St} {H : Hp} {R : VK} {G B Φ : Hp} {As : List V} {S : Pi → List Addr} {ρ : Plc} {x : D × Plc} (r : VRep K G B Φ H As S σ ρ) (hf : f ρ = .ok x) (k : GK K G B Φ As σ R x) : upG K W f σ H R := ⟨G, B, Φ, As, S, ρ, r, by rw [hf]; exact k⟩
theorem dat_root {K : PySem.W.Frag} {G B H : Hp} (gh : Same G H) (bh : Same B H) : ∀ {v : V} {f : Fl} {ds : List D}, Dt K G B H v (.lst f ds) → D.noOwn (.lst f ds) = true → ∃ p vs, v = .ref p ∧ Dts K G B H vs ds ∧ ∀ G2 H2, Stay G B G2 H2 → SqL K H2 p vs := fun {v f ds} hd n => by
  obtain ⟨T, hd⟩ := hd
  cases hd with
  | lst h hs =>
    refine ⟨_, _, rfl, ⟨_, hs⟩, fun G2 H2 ⟨s1, s2, s3⟩ => SqL.of ?_⟩
    simp only [D.noOwn, D.allF, Bool.and_eq_true] at n
    cases f with
    | own => exact absurd n.1 (by decide)
    | new => exact absurd n.1 (by decide)
    | frz => exact s2 _ _ (s1 _ _ h)
    | bor => rcases h with h | h
             · exact s3 _ _ h
             · exact s2 _ _ (s1 _ _ h)
    | loc => exact h.elim
  | lok h hs => exact ⟨_, _, rfl, ⟨_, hs⟩, fun G2 H2 ⟨s1, s2, s3⟩ => h.elim s3.seq fun q => s2.seq (s1.seq q)⟩
theorem stay_dts {K : PySem.W.Frag} {G B H G2 H2 : Hp} {vs : List V} {ds : List D} (st : Stay G B G2 H2) (h : Dts K G B H vs ds) (n : D.allFL ownF ds = true) : Dts K G2 B H2 vs ds := by
  obtain ⟨T, h⟩ := h
  have s := Dats.noS h n
  subst s
  exact ⟨[], h.mono st.1 (fun _ _ q => q) (fun a m => by cases m)⟩
theorem gi_seq (h : GE X W e ga) : GI X W tg e (giSeq ga) := piI (PI.or (pi_list h) (PI.or (pi_tup h) (pi_str h))) fun σ H R ⟨G, B, Φ, As, S, ρ, rp, q⟩ => by
  unfold giSeq at q
  cases hf : ga ρ with
  | no => rw [hf] at q; exact q.elim
  | ex x => rw [hf] at q; exact .inl ⟨G, B, Φ, As, S, ρ, rp, by rw [hf]; exact q⟩
  | ok x =>
    rw [hf] at q
    obtain ⟨ds, e1, k⟩ := outG_opt (show (ofOG (itemsD x.1.fz) x.2).P _ _ from q)
    have no := items_noOwn (fz_noOwn x.1) e1
    -- settled
    have key : ∀ {G1 H1 S1 v T}, Same G G1 → VRep X.K G1 B Φ H1 As S1 σ x.2 → Dat X.K G1 B H1 T v x.1 → TOk T S1 G1 Φ H1 → ∃ G2, Same G G2 ∧ VRep X.K G2 B Φ H1 As S1 σ x.2 ∧ Dat X.K G2 B H1 [] v x.1.fz := fun {G1 H1 S1 v T} s r hd t =>
      ⟨_, s.trans (more_same fun a m => (t.2 a m).2.1), r.more t, dat_fz hd fun a m => (t.2 a m).2.1⟩
    cases hz : x.1.fz with
    | lst f xs =>
      rw [hz] at e1
      cases e1
      refine .inl (upG_at rp hf fun G1 H1 S1 v T s1 r1 hd n t => ?_)
      obtain ⟨G2, s2, r2, hd2⟩ := key s1 r1 hd t
      rw [hz] at hd2
      obtain ⟨p, vs, rfl, hs, st⟩ := dat_root r2.gh (bh_of r2) ⟨_, hd2⟩ (by rw [← hz]; exact fz_noOwn _)
      exact ⟨p, rfl, ⟨vs, st G2 H1 ⟨fun _ _ e => e, r2.gh, bh_of r2⟩⟩, k G2 H1 S1 _ s2 r2 (walks_list fun G3 H3 st3 => ⟨st3.2.1, st G3 H3 st3, stay_dts st3 hs no⟩) no⟩
    | tup xs =>
      rw [hz] at e1
      cases e1
      refine .inr (.inl (upG_at rp hf fun G1 H1 S1 v T s1 r1 hd n t => ?_))
      obtain ⟨G2, s2, r2, hd2⟩ := key s1 r1 hd t
      rw [hz] at hd2
      obtain ⟨p, vs, rfl, hp, hp2, hs⟩ := dt_tup r2.gh ⟨_, hd2⟩
      exact ⟨p, rfl, ⟨vs, hp⟩, k G2 H1 S1 _ s2 r2 (walks_tup fun G3 H3 st3 => ⟨st3.2.1, Same.sqT (st3.1.trans st3.2.1) hp2.sq, stay_dts st3 hs no⟩) no⟩
    | tuk us =>
      rw [hz] at e1
      cases e1
      refine .inr (.inl (upG_at rp hf fun G1 H1 S1 v T s1 r1 hd n t => ?_))
      obtain ⟨G2, s2, r2, hd2⟩ := key s1 r1 hd t
      rw [hz] at hd2
      have hd3 := (⟨_, hd2⟩ : Dt X.K G2 B H1 v _)
      obtain ⟨_, hd3⟩ := hd3
      cases hd3 with
      | tuk hp hs => exact ⟨_, rfl, ⟨_, Same.sqT r2.gh hp⟩, k G2 H1 S1 _ s2 r2 (walks_tup fun G3 H3 st3 => ⟨st3.2.1, Same.sqT (st3.1.trans st3.2.1) hp, stay_dts st3 ⟨_, hs⟩ no⟩) no⟩
    | str z =>
      rw [hz] at e1
      cases e1
      refine .inr (.inr (upG_at rp hf fun G1 H1 S1 v T s1 r1 hd n t => ?_))
      obtain ⟨G2, s2, r2, hd2⟩ := key s1 r1 hd t
      rw [hz] at hd2
      exact ⟨z, dt_str ⟨_, hd2⟩, k G2 H1 S1 _ s2 r2 (walks_str fun G3 H3 st3 => st3.2.1) no⟩
    | _ => rw [hz] at e1; cases e1
theorem rng_noOwn {lo : Int} {n : Nat} : D.allFL ownF (rngD lo n) = true := by
  rw [allFL_eq, List.all_eq_true]
  intro d hd
  obtain ⟨c, _, rfl⟩ := List.mem_map.mp hd
  rfl
theorem gi_range1 (hm : X.mg "range" = none) (ha : GA X W [a] gs) (hg : Gl X "range" := by rfl) (hs : starEach [a] X.env = [(false, eval a X.env)] := by rfl) : GI X W tg (.Call (.Name "range" p) [a] [] pos) (giRange rng1 gs) := piI (pi_range1 hg hm ha hs) fun σ H R ⟨G, B, Φ, As, S, ρ, rp, q⟩ =>
  ⟨G, B, Φ, As, S, ρ, rp, Out.P_mono (Out.P_bind.mp q) (fun x q1 G1 H1 S1 vs s1 r1 hd => by
    obtain ⟨ds, e1, k⟩ := outG_opt q1
    obtain ⟨j, rfl, hj, rfl⟩ := rng1_dt e1 (Dats.ta hd)
    exact ⟨j, rfl, hj.1, hj.2, k G1 H1 S1 _ s1 r1 (walks_range fun G2 H2 e2 => e2.2.1) rng_noOwn⟩) fun _ z => z⟩
theorem gi_range2 (hm : X.mg "range" = none) (ha : GA X W [a, b] gs) (hg : Gl X "range" := by rfl) (hs : starEach [a, b] X.env = [(false, eval a X.env), (false, eval b X.env)] := by rfl) (hs2 : starEach [b] X.env = [(false, eval b X.env)] := by rfl) : GI X W tg (.Call (.Name "range" p) [a, b] [] pos) (giRange rng2 gs) := piI (pi_range2 hg hm ha hs hs2) fun σ H R ⟨G, B, Φ, As, S, ρ, rp, q⟩ =>
  ⟨G, B, Φ, As, S, ρ, rp, Out.P_mono (Out.P_bind.mp q) (fun x q1 G1 H1 S1 vs s1 r1 hd => by
    obtain ⟨ds, e1, k⟩ := outG_opt q1
    obtain ⟨i, j, rfl, hi, hj, rfl⟩ := rng2_dt e1 (Dats.ta hd)
    exact ⟨i, j, rfl, ⟨hi.1, hi.2, hj.1, hj.2⟩, k G1 H1 S1 _ s1 r1 (walks_range fun G2 H2 e2 => e2.2.1) rng_noOwn⟩) fun _ z => z⟩
theorem enum_noOwn {ds : List D} (h : D.allFL ownF ds = true) : D.allFL ownF (enumD ds) = true := by
  rw [allFL_eq, List.all_eq_true] at h ⊢
  intro d hd
  obtain ⟨e, he, rfl⟩ := List.mem_map.mp hd
  have := h e.1 (List.fst_mem_of_mem_zipIdx he)
  simp [D.allF, D.allFL, this]
theorem gi_enum {elts : List Expr} {kk : Nat} {tpos : Pos} (hm : X.mg "enumerate" = none) (ha : GA X W [e] gs) (hg : Gl X "enumerate" := by rfl) (hs : starEach [e] X.env = [(false, eval e X.env)] := by rfl) : GI X W (.Tuple elts kk tpos) (.Call (.Name "enumerate" p) [e] [] pos) (giRange enum1 gs) := piI (pi_enum hg hm ha hs) fun σ H R ⟨G, B, Φ, As, S, ρ, rp, q⟩ =>
  ⟨G, B, Φ, As, S, ρ, rp, Out.P_mono (Out.P_bind.mp q) (fun x q1 G1 H1 S1 us s1 r1 hd => by
    obtain ⟨ds, e1, k⟩ := outG_opt q1
    unfold enum1 at e1
    split at e1
    · rename_i f xs heq
      cases e1
      rw [heq] at hd
      obtain ⟨v, rfl, hv⟩ := dts1 (Dats.ta hd)
      have no := hd.own0 rfl
      simp only [D.allFL, Bool.and_true] at no
      obtain ⟨p, vs, rfl, hs, st⟩ := dat_root r1.gh (bh_of r1) hv no
      simp only [D.allF, Bool.and_eq_true] at no
      exact ⟨p, vs, rfl, st G1 H1 ⟨fun _ _ e => e, r1.gh, bh_of r1⟩, k G1 H1 S1 _ s1 r1 (walks_enum fun G3 H3 st3 => ⟨st3.2.1, st G3 H3 st3, stay_dts st3 hs no.2⟩) (enum_noOwn no.2)⟩
    · cases e1) fun _ z => z⟩

/-! ### for -/
def forV (tg : Tg) (body : FS) : List D → FS
  | [] => fun ρ => .nx ρ
  | d :: ds => fun ρ => match tg.put d ρ with
    | none => .no
    | some ρ1 => match body ρ1 with
      | .nx ρ2 => forV tg body ds ρ2
      | .ct ρ2 => forV tg body ds ρ2
      | .bk ρ2 => .nx ρ2
      | o => o
def sFor (gi : FGI) (tg : Tg) (body : FS) : FS := fun ρ => seqE (gi ρ) fun ds ρ1 => forV tg body ds ρ1
theorem vs_for {tgx iter : Expr} {body : List Stmt} {gi : FGI} {tg : Tg} {tb : FS} (hp : PassesOwn (model X.prog X.w) X.A X.env X.xe) (hc : X.calm = true) (hi : GI X W tgx iter gi) (hg : PG X tgx (tg.rd X.K)) (hb : VSs X W body tb)
    (hs : ∀ x, foldedSetIterable iter X.env x = pure x := by intro _; rfl) : VS X W (.For tgx iter body [] pos) (sFor gi tg tb) := psI (ps_for hp hc hi hg hb hs) fun E σ H ⟨G, B, Φ, As, S, ρ, rp, q⟩ => by
  refine ⟨G, B, Φ, As, S, ρ, rp, ?_⟩
  unfold sFor seqE at q
  cases hf : gi ρ with
  | no => rw [hf] at q; exact q.elim
  | ex x => rw [hf] at q; exact fun G' H' S' cls dx s r er => q G' H' S' σ cls dx s r er
  | ok x =>
    rw [hf] at q
    obtain ⟨ds, ρ0⟩ := x
    intro G1 H1 S1 J s1 r1 wk no
    replace wk : Wk (Stay G1 B) X.K B J ds := wk
    replace no : D.allFL ownF ds = true := no
    replace r1 : VRep X.K G1 B Φ H1 As S1 σ ρ0 := r1
    refine ⟨fun i m σ' H' => m = ds.length - i ∧ i ≤ ds.length ∧ ∃ G' S' ρ', Same G1 G' ∧ VRep X.K G' B Φ H' As S' σ' ρ' ∧ (forV tg tb (ds.drop i) ρ').End X.K W G B Φ As E, ⟨ds.length, by simp, Nat.zero_le _, G1, S1, ρ0, fun _ _ e => e, r1, q⟩, ?_⟩
    rintro i m σ' H' ⟨rfl, hle, G', S', ρ', s', r', q'⟩
    obtain ⟨w1, w2⟩ := wk i G' H' ⟨s', r'.gh, bh_of r'⟩
    by_cases hi : i < ds.length
    · obtain ⟨go, yl⟩ := w1 ds[i] (by simp [hi])
      rw [List.drop_eq_getElem_cons hi] at q'
      simp only [forV] at q'
      refine .inr ⟨go, fun σ2 H2 => ∃ G2 S2 ρ2, Same G1 G2 ∧ VRep X.K G2 B Φ H2 As S2 σ2 ρ2 ∧ (forV tg tb (ds.drop (i + 1)) ρ2).End X.K W G B Φ As E, fun σ2 H2 z => ⟨ds.length - (i + 1), by omega, rfl, hi, z⟩, fun x H'' y => ?_⟩
      obtain ⟨G2, ex2, d2, n2⟩ := yl x H'' y
      have nod : ds[i].noOwn = true := by
        rw [allFL_eq, List.all_eq_true] at no
        exact no _ (List.getElem_mem hi)
      obtain ⟨T, d2⟩ := d2
      have hT := d2.noS nod
      subst hT
      have r2 := r'.ext ex2
      cases e1 : tg.put ds[i] ρ' with
      | none => rw [e1] at q'; exact q'.elim
      | some ρ1 =>
        rw [e1] at q'
        simp only at q'
        have s2 : Same G G2 := (s1.trans s').trans ex2.g
        refine Tg.ok tg (U := []) r2 d2 n2 .nil e1 fun S3 σ3 r3 _ => ⟨G2, B, Φ, As, S3, ρ1, r3, ?_⟩
        cases eb : tb ρ1 with
        | nx ρ2 => rw [eb] at q'; exact fun G4 H4 S4 σ4 s4 r4 => ⟨G4, S4, ρ2, (s'.trans ex2.g).trans s4, r4, q'⟩
        | ct ρ2 => rw [eb] at q'; exact fun G4 H4 S4 σ4 s4 r4 => ⟨G4, S4, ρ2, (s'.trans ex2.g).trans s4, r4, q'⟩
        | bk ρ2 => rw [eb] at q'; exact fun G4 H4 S4 σ4 s4 r4 => q' G4 H4 S4 σ4 (s2.trans s4) r4
        | rt d ρ2 => rw [eb] at q'; exact fun G4 H4 S4 σ4 v T s4 => q' G4 H4 S4 σ4 v T (s2.trans s4)
        | ex e ρ2 => rw [eb] at q'; exact fun G4 H4 S4 σ4 cls dx s4 => q' G4 H4 S4 σ4 cls dx (s2.trans s4)
        | no => rw [eb] at q'; exact q'.elim
    · rw [List.drop_of_length_le (by omega)] at q'
      exact .inl ⟨w2 (by omega), q' G' H' S' σ' (s1.trans s') r'⟩

/-! ### while -/
def whN (t : FGT) (body : FS) : Nat → FS
  | 0 => fun _ => .no
  | n + 1 => fun ρ => seqE (t ρ) fun b ρ1 => if b = true then (match body ρ1 with
      | .nx ρ2 => whN t body n ρ2
      | .ct ρ2 => whN t body n ρ2
      | .bk ρ2 => .nx ρ2
      | o => o) else .nx ρ1
open Classical in
noncomputable def sWhile (t : FGT) (body : FS) : FS := fun ρ => if h : ∃ n, whN t body n ρ ≠ .no then whN t body (Classical.choose h) ρ else .no
theorem whN_s {t : FGT} {body : FS} {n : Nat} {ρ : Plc} : whN t body (n + 1) ρ = seqE (t ρ) fun b ρ1 => if b = true then (match body ρ1 with
      | .nx ρ2 => whN t body n ρ2
      | .ct ρ2 => whN t body n ρ2
      | .bk ρ2 => .nx ρ2
      | o => o) else .nx ρ1 := rfl
theorem whN_succ {t : FGT} {body : FS} : ∀ {n : Nat} {ρ : Plc}, whN t body n ρ ≠ .no → whN t body (n + 1) ρ = whN t body n ρ
  | 0, ρ, h => absurd rfl h
  | n + 1, ρ, h => by
    rw [whN_s] at h
    rw [whN_s (n := n + 1), whN_s (n := n)]
    cases e : t ρ with
    | no => rfl
    | ex x => rfl
    | ok x =>
      rw [e] at h
      simp only [seqE] at h ⊢
      by_cases hb : x.1 = true
      · rw [if_pos hb] at h ⊢
        rw [if_pos hb]
        cases eb : body x.2 with
        | nx ρ2 => rw [eb] at h; exact whN_succ h
        | ct ρ2 => rw [eb] at h; exact whN_succ h
        | _ => rfl
      · rw [if_neg hb, if_neg hb]
theorem whN_le {t : FGT} {body : FS} {ρ : Plc} {n : Nat} (h : whN t body n ρ ≠ .no) : ∀ k, whN t body (n + k) ρ = whN t body n ρ
  | 0 => rfl
  | k + 1 => by
    have := whN_le h k
    rw [← Nat.add_assoc, whN_succ (by rw [this]; exact h), this]
theorem sWhile_of {t : FGT} {body : FS} {ρ : Plc} {n : Nat} (h : whN t body n ρ ≠ .no) : sWhile t body ρ = whN t body n ρ := by
  unfold sWhile
  have hx : ∃ n, whN t body n ρ ≠ .no := ⟨n, h⟩
  rw [dif_pos hx]
  have h2 := Classical.choose_spec hx
  generalize Classical.choose hx = m at h2
  rcases Nat.le_total m n with q | q
  · obtain ⟨k, rfl⟩ := Nat.exists_eq_add_of_le q
    exact (whN_le h2 k).symm
  · obtain ⟨k, rfl⟩ := Nat.exists_eq_add_of_le q
    exact whN_le h k
theorem sWhile_n {t : FGT} {body : FS} {ρ : Plc} (h : sWhile t body ρ ≠ .no) : ∃ n, whN t body n ρ = sWhile t body ρ := by
  unfold sWhile at h ⊢
  by_cases hx : ∃ n, whN t body n ρ ≠ .no
  · rw [dif_pos hx]; exact ⟨_, rfl⟩
  · rw [dif_neg hx] at h; exact absurd rfl h
/-- a while loop by one turn -/
theorem sWhile_step {t : FGT} {body : FS} {ρ : Plc} {o : OS} (ho : o ≠ .no) (h : (seqE (t ρ) fun b ρ1 => if b = true then (match body ρ1 with
      | .nx ρ2 => sWhile t body ρ2
      | .ct ρ2 => sWhile t body ρ2
      | .bk ρ2 => .nx ρ2
      | o => o) else .nx ρ1) = o) : sWhile t body ρ = o := by
  have : ∃ n, whN t body n ρ = o := by
    cases e : t ρ with
    | no => rw [e] at h; exact absurd h.symm ho
    | ex x => rw [e] at h; exact ⟨1, by rw [whN_s, e]; exact h⟩
    | ok x =>
      rw [e] at h
      simp only [seqE] at h
      by_cases hb : x.1 = true
      · rw [if_pos hb] at h
        cases eb : body x.2 with
        | nx ρ2 =>
          rw [eb] at h
          replace h : sWhile t body ρ2 = o := h
          obtain ⟨n, hn⟩ := sWhile_n (t := t) (body := body) (ρ := ρ2) (by rw [h]; exact ho)
          rw [h] at hn
          exact ⟨n + 1, by rw [whN_s, e]; simp only [seqE, hb, if_true, eb, hn]⟩
        | ct ρ2 =>
          rw [eb] at h
          replace h : sWhile t body ρ2 = o := h
          obtain ⟨n, hn⟩ := sWhile_n (t := t) (body := body) (ρ := ρ2) (by rw [h]; exact ho)
          rw [h] at hn
          exact ⟨n + 1, by rw [whN_s, e]; simp only [seqE, hb, if_true, eb, hn]⟩
        | bk ρ2 => rw [eb] at h; exact ⟨1, by rw [whN_s, e]; simp only [seqE, hb, if_true, eb]; exact h⟩
        | rt d ρ2 => rw [eb] at h; exact ⟨1, by rw [whN_s, e]; simp only [seqE, hb, if_true, eb]; exact h⟩
        | ex d ρ2 => rw [eb] at h; exact ⟨1, by rw [whN_s, e]; simp only [seqE, hb, if_true, eb]; exact h⟩
        | no => rw [eb] at h; exact absurd h.symm ho
      · rw [if_neg hb] at h
        exact ⟨1, by rw [whN_s, e]; simp only [seqE]; rw [if_neg hb]; exact h⟩
  obtain ⟨n, hn⟩ := this
  rw [← hn]
  exact sWhile_of (by rw [hn]; exact ho)
theorem vs_while {c : Expr} {body : List Stmt} {t : FGT} {tb : FS} (hp : PassesOwn (model X.prog X.w) X.A X.env X.xe) (hc : GT X W c t) (hb : VSs X W body tb) : VS X W (.While c body [] pos) (sWhile t tb) := psI (ps_while hp hc hb) fun E σ H ⟨G, B, Φ, As, S, ρ, rp, q⟩ => by
  have hne : sWhile t tb ρ ≠ .no := fun z => by rw [z] at q; exact q
  obtain ⟨n, hn⟩ := sWhile_n hne
  rw [← hn] at q
  refine ⟨fun m σ' H' => ∃ G' S' ρ', Same G G' ∧ VRep X.K G' B Φ H' As S' σ' ρ' ∧ (whN t tb m ρ').End X.K W G B Φ As E, ⟨n, G, S, ρ, fun _ _ e => e, rp, q⟩, ?_⟩
  rintro m σ' H' ⟨G', S', ρ', s', r', q'⟩
  cases m with
  | zero => exact q'.elim
  | succ m =>
    rw [whN_s] at q'
    refine ⟨G', B, Φ, As, S', ρ', r', ?_⟩
    cases e : t ρ' with
    | no => rw [e] at q'; exact q'.elim
    | ex x => rw [e] at q'; exact fun G1 H1 S1 cls dx s r er => q' G1 H1 S1 σ' cls dx (s'.trans s) r er
    | ok x =>
      rw [e] at q'
      simp only [seqE] at q'
      obtain ⟨b, ρ1⟩ := x
      intro G1 H1 S1 s1 r1
      replace r1 : VRep X.K G1 B Φ H1 As S1 σ' ρ1 := r1
      cases b with
      | false => exact iteF ((show OS.End X.K W G B Φ As E (.nx ρ1) from by simpa using q') G1 H1 S1 σ' (s'.trans s1) r1)
      | true =>
        simp only [if_true] at q'
        refine iteT ⟨fun σ4 H4 => ∃ G4 S4 ρ4, Same G G4 ∧ VRep X.K G4 B Φ H4 As S4 σ4 ρ4 ∧ (whN t tb m ρ4).End X.K W G B Φ As E, fun σ4 H4 z => ⟨m, Nat.lt_succ_self _, z⟩, G1, B, Φ, As, S1, ρ1, r1, ?_⟩
        have ss := s'.trans s1
        cases eb : tb ρ1 with
        | nx ρ2 => rw [eb] at q'; exact fun G4 H4 S4 σ4 s4 r4 => ⟨G4, S4, ρ2, ss.trans s4, r4, q'⟩
        | ct ρ2 => rw [eb] at q'; exact fun G4 H4 S4 σ4 s4 r4 => ⟨G4, S4, ρ2, ss.trans s4, r4, q'⟩
        | bk ρ2 => rw [eb] at q'; exact fun G4 H4 S4 σ4 s4 r4 => q' G4 H4 S4 σ4 (ss.trans s4) r4
        | rt d ρ2 => rw [eb] at q'; exact fun G4 H4 S4 σ4 v T s4 => q' G4 H4 S4 σ4 v T (ss.trans s4)
        | ex e ρ2 => rw [eb] at q'; exact fun G4 H4 S4 σ4 cls dx s4 => q' G4 H4 S4 σ4 cls dx (ss.trans s4)
        | no => rw [eb] at q'; exact q'.elim
end
end VL

/-! VLm: defs as functions on trees. -/
namespace VL
open PySem PySem.Spec PyProof.Rows L2

/-- an argument is lent, settled, or may be changed -/
inductive Md where
  | r | k | m
  deriving DecidableEq
inductive OF where
  | rt (d : D) (os : List (Option D)) | ex (x : Exn) (os : List (Option D)) | no
abbrev Fn := List D → OF
def lentF : Fl → Bool
  | .bor => true
  | .loc => true
  | _ => false
abbrev D.lent (d : D) : Bool := d.allF lentF
def MOk : Md → List Addr → D → Prop
  | .r, T, d => T = [] ∧ d.lent = true
  | .k, T, d => T = [] ∧ d.kept = true
  | .m, _, d => d.old ∧ d.noBor = true
structure Regs (G B H : Hp) (Sa : Nat → List Addr) : Prop where
  nd : ∀ j, (Sa j).Nodup
  dj : ∀ i j a, i ≠ j → a ∈ Sa i → a ∉ Sa j
  fr : ∀ j a, a ∈ Sa j → G a = none ∧ B a = none ∧ ∃ o, H a = some o ∧ HO.free o
structure CIn (K : PySem.W.Frag) (G B H : Hp) (ms : List Md) (Sa : Nat → List Addr) (vs : List V) (ds : List D) : Prop where
  gh : Same G H
  bh : Same B H
  dis : ∀ a o, B a = some o → G a = none
  vl : vs.length = ms.length
  dl : ds.length = ms.length
  at' : ∀ (j : Nat) (md : Md) (v : V) (d : D), ms[j]? = some md → vs[j]? = some v → ds[j]? = some d → Dat K G B H (Sa j) v d ∧ MOk md (Sa j) d
  rg : Regs G B H Sa
structure COut (K : PySem.W.Frag) (G B H : Hp) (ms : List Md) (Sa : Nat → List Addr) (vs : List V) (os : List (Option D)) : Prop where
  at' : ∀ (j : Nat), ms[j]? = some .m → ∃ d v, os[j]? = some (some d) ∧ vs[j]? = some v ∧ Dat K G B H (Sa j) v d ∧ d.old ∧ d.noBor = true
  rg : Regs G B H Sa
/-- what the call leaves -/
structure Left (G B G' H' : Hp) : Prop where
  g : Same G G'
  gh : Same G' H'
  bh : Same B H'
  dis : ∀ a o, B a = some o → G' a = none
def Exn.plain (x : Exn) : Bool := match x.flds with
  | none => true
  | some fs => D.allFK plainF fs
def liftF (K : PySem.W.Frag) (ms : List Md) (F : Fn) : Sp := fun vs H Q E => ∃ (G B : Hp) (Sa : Nat → List Addr) (ds : List D), CIn K G B H ms Sa vs ds ∧ match F ds with
  | .rt d os => ∀ (G' H' : Hp) (Sa' : Nat → List Addr) (v : V) (T : List Addr), Left G B G' H' → COut K G' B H' ms Sa' vs os → Dat K G' B H' T v d → d.old → d.noBor = true → T.Nodup → (∀ a ∈ T, (∀ j, a ∉ Sa' j) ∧ G' a = none ∧ B a = none ∧ ∃ o, H' a = some o ∧ HO.free o) → Q v H'
  | .ex x os => ∀ (G' H' : Hp) (Sa' : Nat → List Addr) (cls : Value) (dx : Option Addr), Left G B G' H' → COut K G' B H' ms Sa' vs os → ExnR K G' B H' x cls dx → x.plain = true → E cls dx H'
  | .no => False

/-! ### a def by its body -/
def stS : Nat → List Md → List D → List Sl
  | j, .m :: ms, _ :: ds => .arg j :: stS (j + 1) ms ds
  | j, .r :: ms, d :: ds => .val d :: stS (j + 1) ms ds
  | j, .k :: ms, d :: ds => .val d :: stS (j + 1) ms ds
  | _, _, _ => []
def stA : List Md → List D → List (Option D)
  | .m :: ms, d :: ds => some d :: stA ms ds
  | .r :: ms, _ :: ds => none :: stA ms ds
  | .k :: ms, _ :: ds => none :: stA ms ds
  | _, _ => []
def startP (n : Nat) (ms : List Md) (ds : List D) : Plc := ⟨stS 0 ms ds ++ List.replicate (n - ms.length) .no, stA ms ds⟩
theorem stS_len : ∀ {o : Nat} {ms : List Md} {ds : List D}, ds.length = ms.length → (stS o ms ds).length = ms.length
  | _, [], [], _ => rfl
  | _, [], _ :: _, h => by simp at h
  | _, _ :: _, [], h => by simp at h
  | o, md :: ms, d :: ds, h => by
    have := stS_len (o := o + 1) (ms := ms) (ds := ds) (by simpa using h)
    cases md <;> simp [stS, this]
theorem stA_len : ∀ {ms : List Md} {ds : List D}, ds.length = ms.length → (stA ms ds).length = ms.length
  | [], [], _ => rfl
  | [], _ :: _, h => by simp at h
  | _ :: _, [], h => by simp at h
  | md :: ms, d :: ds, h => by
    have := stA_len (ms := ms) (ds := ds) (by simpa using h)
    cases md <;> simp [stA, this]
theorem stS_val : ∀ {o : Nat} {ms : List Md} {ds : List D} {j : Nat} {d : D}, (stS o ms ds)[j]? = some (.val d) → ∃ md, ms[j]? = some md ∧ md ≠ .m ∧ ds[j]? = some d
  | _, [], _, _, _, h => by simp [stS] at h
  | _, md :: ms, [], _, _, h => by cases md <;> simp [stS] at h
  | o, md :: ms, d :: ds, 0, _, h => by cases md <;> simp [stS] at h ⊢ <;> exact h
  | o, md :: ms, d :: ds, j + 1, e, h => by
    have : (stS (o + 1) ms ds)[j]? = some (.val e) := by cases md <;> simpa [stS] using h
    simpa using stS_val this
theorem stS_arg : ∀ {o : Nat} {ms : List Md} {ds : List D} {j i : Nat}, (stS o ms ds)[j]? = some (.arg i) → i = o + j ∧ ms[j]? = some .m ∧ ∃ d, ds[j]? = some d
  | _, [], _, _, _, h => by simp [stS] at h
  | _, md :: ms, [], _, _, h => by cases md <;> simp [stS] at h
  | o, md :: ms, d :: ds, 0, _, h => by cases md <;> simp [stS] at h ⊢ <;> exact h.symm
  | o, md :: ms, d :: ds, j + 1, i, h => by
    have : (stS (o + 1) ms ds)[j]? = some (.arg i) := by cases md <;> simpa [stS] using h
    obtain ⟨a, b, c⟩ := stS_arg this
    exact ⟨by omega, by simpa using b, by simpa using c⟩
theorem stA_at : ∀ {ms : List Md} {ds : List D} {j : Nat} {d : D}, (stA ms ds)[j]? = some (some d) → ms[j]? = some .m ∧ ds[j]? = some d
  | [], _, _, _, h => by simp [stA] at h
  | md :: ms, [], _, _, h => by cases md <;> simp [stA] at h
  | md :: ms, d :: ds, 0, _, h => by cases md <;> simp [stA] at h ⊢ <;> exact h
  | md :: ms, d :: ds, j + 1, e, h => by
    have : (stA ms ds)[j]? = some (some e) := by cases md <;> simpa [stA] using h
    simpa using stA_at this
/-- the regions of the places at a def's start -/
def S0 (ms : List Md) (Sa : Nat → List Addr) : Pi → List Addr
  | .inl _ => []
  | .inr j => if ms[j]? = some .m then Sa j else []
theorem lent_old {d : D} (h : d.lent = true) : d.old := by
  cases d with
  | lst f _ => cases f <;> simp [D.lent, D.allF, lentF, D.root] at *
  | dic f _ => cases f <;> simp [D.lent, D.allF, lentF, D.root] at *
  | dit f _ => cases f <;> simp [D.lent, D.allF, lentF, D.root] at *
  | obj f _ _ => cases f <;> simp [D.lent, D.allF, lentF, D.root] at *
  | _ => simp [D.root]
theorem kept_old {d : D} (h : d.kept = true) : d.old := by
  cases d with
  | lst f _ => cases f <;> simp [D.kept, D.allF, keepF, D.root] at *
  | dic f _ => cases f <;> simp [D.kept, D.allF, keepF, D.root] at *
  | dit f _ => cases f <;> simp [D.kept, D.allF, keepF, D.root] at *
  | obj f _ _ => cases f <;> simp [D.kept, D.allF, keepF, D.root] at *
  | _ => simp [D.root]
theorem start_vrep {K : PySem.W.Frag} {G B H : Hp} {ms : List Md} {Sa : Nat → List Addr} {vs : List V} {ds : List D} {N : List Str} (c : CIn K G B H ms Sa vs ds) : VRep K G B B H vs (S0 ms Sa) (L2.start N vs) (startP N.length ms ds) where
  gh := c.gh
  bp := fun _ _ e => e
  ph := c.bh
  dis := c.dis
  len := by simp [startP, L2.start, stS_len c.dl, c.vl]
  alen := by simp [startP, stA_len c.dl, c.vl]
  slot := fun i d e => by
    have hl := stS_len (o := 0) c.dl
    simp only [startP] at e
    by_cases hi : i < ms.length
    · rw [List.getElem?_append_left (by rw [hl]; exact hi)] at e
      obtain ⟨md, h1, h2, h3⟩ := stS_val e
      have hv : vs[i]? = some (vs[i]'(by rw [c.vl]; exact hi)) := by simp [c.vl, hi]
      obtain ⟨q1, q2⟩ := c.at' i md _ d h1 hv h3
      have hT : Sa i = [] ∧ d.old := by
        cases md with
        | m => exact absurd rfl h2
        | r => exact ⟨q2.1, lent_old q2.2⟩
        | k => exact ⟨q2.1, kept_old q2.2⟩
      rw [hT.1] at q1
      refine ⟨hT.2, _, ?_, q1⟩
      unfold L2.start
      rw [List.getElem?_append_left (by rw [List.length_map, c.vl]; exact hi), List.getElem?_map, hv]
      rfl
    · rw [List.getElem?_append_right (by rw [hl]; omega), List.getElem?_replicate] at e
      split at e <;> cases e
  arg := fun i j e => by
    have hl := stS_len (o := 0) c.dl
    simp only [startP] at e
    by_cases hi : i < ms.length
    · rw [List.getElem?_append_left (by rw [hl]; exact hi)] at e
      obtain ⟨h1, h2, d, h3⟩ := stS_arg e
      have hv : vs[i]? = some (vs[i]'(by rw [c.vl]; exact hi)) := by simp [c.vl, hi]
      have : j = i := by omega
      subst this
      refine ⟨_, ?_, hv⟩
      unfold L2.start
      rw [List.getElem?_append_left (by rw [List.length_map, c.vl]; exact hi), List.getElem?_map, hv]
      rfl
    · rw [List.getElem?_append_right (by rw [hl]; omega), List.getElem?_replicate] at e
      split at e <;> cases e
  ar := fun j d e => by
    obtain ⟨h1, h2⟩ := stA_at e
    have hi : j < ms.length := (List.getElem?_eq_some_iff.mp h1).1
    have hv : vs[j]? = some (vs[j]'(by rw [c.vl]; exact hi)) := by simp [c.vl, hi]
    obtain ⟨q1, q2⟩ := c.at' j .m _ d h1 hv h2
    exact ⟨q2.1, _, hv, by simp only [S0, h1, if_true]; exact q1⟩
  nd := fun i => by
    cases i with
    | inl i => exact .nil
    | inr j => simp only [S0]; split; exact c.rg.nd j; exact .nil
  dj := fun i j a h h1 h2 => by
    cases i with
    | inl i => cases h1
    | inr i =>
      cases j with
      | inl j => cases h2
      | inr j =>
        simp only [S0] at h1 h2
        split at h1
        · split at h2
          · exact c.rg.dj i j a (fun z => h (by rw [z])) h1 h2
          · cases h2
        · cases h1
  fr := fun i a h => by
    cases i with
    | inl i => cases h
    | inr j =>
      simp only [S0] at h
      split at h
      · exact c.rg.fr j a h
      · cases h
def okA : List Md → List (Option D) → Bool
  | [], _ => true
  | .m :: ms, some d :: a => d.noBor && okA ms a
  | .m :: _, _ => false
  | _ :: ms, _ :: a => okA ms a
  | _ :: _, [] => false
theorem okA_at : ∀ {ms : List Md} {a : List (Option D)}, okA ms a = true → ∀ j : Nat, ms[j]? = some Md.m → ∃ d, a[j]? = some (some d) ∧ d.noBor = true
  | [], _, _, j, h => by simp at h
  | .m :: ms, some d :: a, e, j, h => by
    simp only [okA, Bool.and_eq_true] at e
    cases j with
    | zero => exact ⟨d, rfl, e.1⟩
    | succ j => simpa using okA_at e.2 j (by simpa using h)
  | .m :: ms, none :: a, e, j, h => by simp [okA] at e
  | .m :: ms, [], e, j, h => by simp [okA] at e
  | .r :: ms, _ :: a, e, j, h => by
    simp only [okA] at e
    cases j with
    | zero => simp at h
    | succ j => simpa using okA_at e j (by simpa using h)
  | .k :: ms, _ :: a, e, j, h => by
    simp only [okA] at e
    cases j with
    | zero => simp at h
    | succ j => simpa using okA_at e j (by simpa using h)
  | .r :: ms, [], e, j, h => by simp [okA] at e
  | .k :: ms, [], e, j, h => by simp [okA] at e
def finF (ms : List Md) : OS → OF
  | .nx ρ => if okA ms ρ.a = true then .rt .non ρ.a else .no
  | .rt d ρ => if d.noBor = true ∧ okA ms ρ.a = true then .rt d ρ.a else .no
  | .ex x ρ => if x.plain = true ∧ okA ms ρ.a = true then .ex x ρ.a else .no
  | _ => .no
def fnF (n : Nat) (ms : List Md) (body : FS) : Fn := fun ds => finF ms (body (startP n ms ds))
theorem vrep_out {K : PySem.W.Frag} {G B H : Hp} {ms : List Md} {vs : List V} {S : Pi → List Addr} {σ : L2.St} {ρ : Plc} (r : VRep K G B B H vs S σ ρ) (h : okA ms ρ.a = true) : COut K G B H ms (fun j => S (.inr j)) vs ρ.a :=
  ⟨fun j hj => by
    obtain ⟨d, h1, h2⟩ := okA_at h j hj
    obtain ⟨n, v, h3, h4⟩ := r.ar j d h1
    exact ⟨d, v, h1, h3, h4, n, h2⟩, fun j => r.nd _, fun i j a hij => r.dj _ _ a (fun z => hij (by simpa using z)), fun j a m => r.fr _ a m⟩
section
variable {P : Program} {w : World} {K : PySem.W.Frag} {mg : Str → Option Value} {base : Heap}
abbrev BX (P : Program) (w : World) (K : PySem.W.Frag) (mg : Str → Option Value) (base : Heap) (N : List Str) (qual : Str) (st : Stmt) (f : Addr) (cdv : Value) (A : Around) (outer : List Env) (s : Shared) (H : Hp) (E : XK) : Cx := cxOf (L2.CX P w) P w K mg base N qual (defScope st) f cdv A outer s H E
abbrev WB (E : XK) : WX := fun cls d _ H => E cls d H
theorem fn_okF {x qual : Str} {st : Stmt} {f : Addr} {fd : FuncData} {N ps : List Str} {k : Nat} {ms : List Md} {body : FS} (F : Fun K x qual st f fd) (S : FnScope N ps (defScope st)) (hl : ms.length = ps.length)
    (hbody : ∀ (cdv : Value) (A : Around) (outer : List Env) (s : Shared) (H : Hp) (E : XK), Room k (BX P w K mg base N qual st f cdv A outer s H E).A → VSs (BX P w K mg base N qual st f cdv A outer s H E) (WB E) (defBody st) body) :
    FnOk P w K mg base (L2.CX P w) (k + 1) f fd ps (liftF K ms (fnF N.length ms body)) := by
  refine F.okX S (fun vs H Q E h => ?_) (fun cdv A outer s H vs Q E hr h => ?_)
  · obtain ⟨_, _, _, _, c, _⟩ := h
    rw [c.vl, hl]
  · refine ⟨_, hbody cdv A outer s H E hr, ?_⟩
    obtain ⟨G, B, Sa, ds, c, q⟩ := h
    refine ⟨G, B, B, vs, S0 ms Sa, startP N.length ms ds, start_vrep c, ?_⟩
    unfold fnF at q
    cases e : body (startP N.length ms ds) with
    | no => rw [e] at q; exact q.elim
    | bk ρ => rw [e] at q; exact q.elim
    | ct ρ => rw [e] at q; exact q.elim
    | nx ρ =>
      rw [e] at q
      simp only [finF] at q
      intro G' H' S' σ' s' r'
      split at q
      · rename_i d os heq
        split at heq
        · rename_i hk
          cases heq
          exact q G' H' _ .non [] ⟨s', r'.gh, r'.ph, r'.dis⟩ (vrep_out r' hk) .non (by simp [D.root]) rfl .nil fun a m => by cases m
        · cases heq
      · rename_i heq; split at heq <;> cases heq
      · exact q.elim
    | rt d ρ =>
      rw [e] at q
      simp only [finF] at q
      intro G' H' S' σ' v T s' r' hd n t
      split at q
      · rename_i d' os heq
        split at heq
        · rename_i hk
          cases heq
          exact q G' H' _ v T ⟨s', r'.gh, r'.ph, r'.dis⟩ (vrep_out r' hk.2) hd n hk.1 t.1 fun a m => ⟨fun j => (t.2 a m).1 _, (t.2 a m).2⟩
        · cases heq
      · rename_i heq; split at heq <;> cases heq
      · exact q.elim
    | ex x ρ =>
      rw [e] at q
      simp only [finF] at q
      intro G' H' S' σ' cls dx s' r' er
      split at q
      · rename_i heq; split at heq <;> cases heq
      · rename_i d' os heq
        split at heq
        · rename_i hk
          cases heq
          exact q G' H' _ cls dx ⟨s', r'.gh, r'.ph, r'.dis⟩ (vrep_out r' hk.2) er hk.1
        · cases heq
      · exact q.elim
/-- a def of the module's top -/
def TopFn (K : PySem.W.Frag) (mg : Str → Option Value) (x : Str) (st : Stmt) (ps : List Str) : Prop := ∃ (f : Addr) (fd : FuncData), Fun K x x st f fd ∧ mg x = some (.ref f) ∧ Binds K fd ps []
/-- a method of the class at C -/
def TopMt (K : PySem.W.Frag) (C : Addr) (m qual : Str) (st : Stmt) (ps : List Str) : Prop := ∃ (f : Addr) (fd : FuncData), Fun K m qual st f fd ∧ Meth K C m f ∧ Binds K fd ps []
structure VFn (P : Program) (w : World) (K : PySem.W.Frag) (mg : Str → Option Value) (base : Heap) (x : Str) (k : Nat) (ms : List Md) (F : Fn) : Prop where
  ex : ∃ (f : Addr) (fd : FuncData) (ps : List Str), FnOk P w K mg base (L2.CX P w) k f fd ps (liftF K ms F) ∧ mg x = some (.ref f) ∧ PySem.W.keepIn K (.ref f) = true ∧ Binds K fd ps []
structure VMt (P : Program) (w : World) (K : PySem.W.Frag) (mg : Str → Option Value) (base : Heap) (C : Addr) (m : Str) (k : Nat) (ms : List Md) (F : Fn) : Prop where
  ex : ∃ (f : Addr) (fd : FuncData) (ps : List Str), FnOk P w K mg base (L2.CX P w) k f fd ps (liftF K ms F) ∧ Meth K C m f ∧ Binds K fd ps []
theorem vfn {x : Str} {st : Stmt} {N ps : List Str} {k : Nat} {ms : List Md} {body : FS} (T : TopFn K mg x st ps) (S : FnScope N ps (defScope st)) (hl : ms.length = ps.length)
    (hbody : ∀ (f : Addr) (cdv : Value) (A : Around) (outer : List Env) (s : Shared) (H : Hp) (E : XK), Room k (BX P w K mg base N x st f cdv A outer s H E).A → VSs (BX P w K mg base N x st f cdv A outer s H E) (WB E) (defBody st) body) : VFn P w K mg base x (k + 1) ms (fnF N.length ms body) := by
  obtain ⟨f, fd, F, hm, hb⟩ := T
  exact ⟨f, fd, ps, fn_okF F S hl (hbody f), hm, F.kp, hb⟩
theorem vmt {C : Addr} {m qual : Str} {st : Stmt} {N ps : List Str} {k : Nat} {ms : List Md} {body : FS} (T : TopMt K C m qual st ps) (S : FnScope N ps (defScope st)) (hl : ms.length = ps.length)
    (hbody : ∀ (f : Addr) (cdv : Value) (A : Around) (outer : List Env) (s : Shared) (H : Hp) (E : XK), Room k (BX P w K mg base N qual st f cdv A outer s H E).A → VSs (BX P w K mg base N qual st f cdv A outer s H E) (WB E) (defBody st) body) : VMt P w K mg base C m (k + 1) ms (fnF N.length ms body) := by
  obtain ⟨f, fd, F, hm, hb⟩ := T
  exact ⟨f, fd, ps, fn_okF F S hl (hbody f), hm, hb⟩
end
end VL

/-! VLn: places by name, lending. -/
namespace VL
open PySem PySem.Spec PyProof.Rows L2

/-- a place -/
inductive Lc where
  | s (i : Nat) | a (j : Nat)
  deriving DecidableEq
def Lc.pi : Lc → Pi
  | .s i => .inl i
  | .a j => .inr j
def Plc.lc (ρ : Plc) (i : Nat) : Option Lc := match ρ.s[i]? with
  | some (.val _) => some (.s i)
  | some (.arg j) => some (.a j)
  | _ => none
def Plc.get (ρ : Plc) : Lc → Option D
  | .s i => match ρ.s[i]? with
    | some (.val d) => some d
    | _ => none
  | .a j => (ρ.a[j]?).bind id
def Plc.rm (ρ : Plc) : Lc → Plc
  | .s i => ρ.setS i .no
  | .a j => ρ.setA j none
def Plc.put (ρ : Plc) : Lc → D → Plc
  | .s i, d => ρ.setS i (.val d)
  | .a j, d => ρ.setA j (some d)
/-- the value at a place -/
def Lc.At (σ : L2.St) (As : List V) : Lc → V → Prop
  | .s i, v => σ[i]? = some (some v)
  | .a j, v => As[j]? = some v
theorem Lc.at_eq {σ : L2.St} {As : List V} {l : Lc} {v w : V} (h : l.At σ As v) (h' : l.At σ As w) : v = w := by
  cases l with
  | s i => simp only [Lc.At] at h h'; rw [h] at h'; cases h'; rfl
  | a j => simp only [Lc.At] at h h'; rw [h] at h'; cases h'; rfl
section
variable {K : PySem.W.Frag} {G B Φ H G' H' : Hp} {As : List V} {S : Pi → List Addr} {σ : L2.St} {ρ : Plc}
/-- a name's value is its place's -/
theorem VRep.lc_at (r : VRep K G B Φ H As S σ ρ) {i : Nat} {l : Lc} (h : ρ.lc i = some l) : ∃ v, σ[i]? = some (some v) ∧ l.At σ As v := by
  unfold Plc.lc at h
  cases e : ρ.s[i]? with
  | none => rw [e] at h; cases h
  | some x =>
    rw [e] at h
    cases x with
    | no => cases h
    | val d => cases h; obtain ⟨_, v, h1, _⟩ := r.slot i d e; exact ⟨v, h1, h1⟩
    | arg j => cases h; obtain ⟨v, h1, h2⟩ := r.arg i j e; exact ⟨v, h1, h2⟩
theorem look_get {i : Nat} {l : Lc} (h : ρ.lc i = some l) : look ρ i = ρ.get l := by
  unfold Plc.lc at h
  unfold look Plc.get
  cases e : ρ.s[i]? with
  | none => rw [e] at h; cases h
  | some x =>
    rw [e] at h
    cases x with
    | no => cases h
    | val d => cases h; simp [e]
    | arg j => cases h; simp
theorem VRep.dropA {j : Nat} (r : VRep K G B Φ H As S σ ρ) : VRep K G B Φ H As (VL.setS S (.inr j) []) σ (ρ.setA j none) where
  gh := r.gh
  bp := r.bp
  ph := r.ph
  dis := r.dis
  len := r.len
  alen := by simp [Plc.setA, r.alen]
  slot := fun i d q => by
    obtain ⟨n, v, h1, h2⟩ := r.slot i d q
    exact ⟨n, v, h1, by rw [setS_ne (by simp)]; exact h2⟩
  arg := r.arg
  ar := fun k e q => by
    simp only [Plc.setA, List.getElem?_set] at q
    by_cases hij : j = k
    · subst hij
      rw [if_pos rfl] at q
      split at q <;> cases q
    · rw [if_neg hij] at q
      obtain ⟨n', w, h1, h2⟩ := r.ar k e q
      exact ⟨n', w, h1, by rw [setS_ne (by simpa using Ne.symm hij)]; exact h2⟩
  nd := fun k => by
    by_cases h : k = .inr j
    · subst h; rw [setS_same]; exact .nil
    · rw [setS_ne h]; exact r.nd k
  dj := fun i k a hne hj hk => by
    by_cases h1 : i = .inr j
    · subst h1; rw [setS_same] at hj; cases hj
    · rw [setS_ne h1] at hj
      by_cases h2 : k = .inr j
      · subst h2; rw [setS_same] at hk; cases hk
      · rw [setS_ne h2] at hk
        exact r.dj i k a hne hj hk
  fr := fun k a m => by
    by_cases h : k = .inr j
    · subst h; rw [setS_same] at m; cases m
    · rw [setS_ne h] at m; exact r.fr k a m
theorem VRep.setA {T : List Addr} {j : Nat} {v : V} {d : D} (r : VRep K G B Φ H As S σ ρ) (hv : As[j]? = some v) (hd : Dat K G B H T v d) (n : d.old) (t : TOk T S G Φ H) : VRep K G B Φ H As (VL.setS S (.inr j) T) σ (ρ.setA j (some d)) where
  gh := r.gh
  bp := r.bp
  ph := r.ph
  dis := r.dis
  len := r.len
  alen := by simp [Plc.setA, r.alen]
  slot := fun i d q => by
    obtain ⟨n, v, h1, h2⟩ := r.slot i d q
    exact ⟨n, v, h1, by rw [setS_ne (by simp)]; exact h2⟩
  arg := r.arg
  ar := fun k e q => by
    simp only [Plc.setA, List.getElem?_set] at q
    by_cases hij : j = k
    · subst hij
      rw [if_pos rfl] at q
      split at q
      · cases q
        exact ⟨n, v, hv, by rw [setS_same]; exact hd⟩
      · cases q
    · rw [if_neg hij] at q
      obtain ⟨n', w, h1, h2⟩ := r.ar k e q
      exact ⟨n', w, h1, by rw [setS_ne (by simpa using Ne.symm hij)]; exact h2⟩
  nd := fun k => by
    by_cases h : k = .inr j
    · subst h; rw [setS_same]; exact t.1
    · rw [setS_ne h]; exact r.nd k
  dj := fun i k a hne hj hk => by
    by_cases h1 : i = .inr j
    · subst h1
      rw [setS_same] at hj
      rw [setS_ne (Ne.symm hne)] at hk
      exact (t.2 a hj).1 k hk
    · rw [setS_ne h1] at hj
      by_cases h2 : k = .inr j
      · subst h2
        rw [setS_same] at hk
        exact (t.2 a hk).1 i hj
      · rw [setS_ne h2] at hk
        exact r.dj i k a hne hj hk
  fr := fun k a m => by
    by_cases h : k = .inr j
    · subst h; rw [setS_same] at m; exact (t.2 a m).2
    · rw [setS_ne h] at m; exact r.fr k a m
/-- what a place holds leaves it -/
theorem VRep.takeL {l : Lc} {d : D} (r : VRep K G B Φ H As S σ ρ) (h : ρ.get l = some d) : ∃ v, l.At σ As v ∧ d.old ∧ Dat K G B H (S l.pi) v d ∧ VRep K G B Φ H As (VL.setS S l.pi []) σ (ρ.rm l) ∧ TOk (S l.pi) (VL.setS S l.pi []) G Φ H := by
  cases l with
  | s i =>
    simp only [Plc.get] at h
    cases e : ρ.s[i]? with
    | none => rw [e] at h; cases h
    | some x =>
      rw [e] at h
      cases x with
      | no => cases h
      | arg j => cases h
      | val d' =>
        cases h
        obtain ⟨v, h1, h2, h3, h4, h5⟩ := r.take e
        exact ⟨v, h1, h2, h3, h4, h5⟩
  | a j =>
    simp only [Plc.get] at h
    have e : ρ.a[j]? = some (some d) := by
      cases e : ρ.a[j]? with
      | none => rw [e] at h; cases h
      | some x => rw [e] at h; cases x with
        | none => cases h
        | some y => cases h; rfl
    obtain ⟨n, v, h1, h2⟩ := r.ar j d e
    refine ⟨v, h1, n, h2, r.dropA, r.nd _, fun a m => ⟨fun k q => ?_, r.fr _ a m⟩⟩
    by_cases hj : k = .inr j
    · subst hj; rw [show Lc.pi (.a j) = .inr j from rfl, setS_same] at q; cases q
    · rw [show Lc.pi (.a j) = .inr j from rfl, setS_ne hj] at q
      exact r.dj _ _ a (Ne.symm hj) m q
theorem VRep.putL {l : Lc} {T : List Addr} {v : V} {d : D} (r : VRep K G B Φ H As S σ ρ) (hv : l.At σ As v) (hd : Dat K G B H T v d) (n : d.old) (t : TOk T S G Φ H) : VRep K G B Φ H As (VL.setS S l.pi T) σ (ρ.put l d) := by
  cases l with
  | s i =>
    have := r.set (i := i) hd n t
    rw [set_self hv] at this
    exact this
  | a j => exact r.setA hv hd n t
end

/-! ### lending -/
mutual
theorem Dat.anyB {K : PySem.W.Frag} {G B B' H : Hp} : ∀ {S : List Addr} {v : V} {d : D}, Dat K G B H S v d → d.noBor = true → Dat K G B' H S v d
  | _, _, _, .non, _ => .non
  | _, _, _, .bl b, _ => .bl b
  | _, _, _, .int i, _ => .int i
  | _, _, _, .str x, _ => .str x
  | _, _, _, .ty n, _ => .ty n
  | _, _, _, .ref a, _ => .ref a
  | _, _, _, .tup h hs, e => .tup h (Dats.anyB hs (by simpa [D.noBor, D.allF] using e))
  | _, _, _, .tuk h hs, e => .tuk h (Dats.anyB hs (by simpa [D.noBor, D.allF] using e))
  | _, _, _, .lst (f := f) h hs, e => by
    simp only [D.noBor, D.allF, Bool.and_eq_true] at e
    refine .lst ?_ (Dats.anyB hs e.2)
    cases f <;> first | exact h | cases e.1
  | _, _, _, .lok h hs, e => by simp [D.noBor, D.allF, borF] at e
  | _, _, _, .dic (f := f) h hs, e => by
    simp only [D.noBor, D.allF, Bool.and_eq_true] at e
    refine .dic ?_ (DatM.anyB hs e.2)
    cases f <;> first | exact h | cases e.1
  | _, _, _, .dit (f := f) h hs, e => by
    simp only [D.noBor, D.allF, Bool.and_eq_true] at e
    refine .dit ?_ (DatM.anyB hs e.2)
    cases f <;> first | exact h | cases e.1
  | _, _, _, .obj (f := f) (dx := dx) h hs, e => by
    simp only [D.noBor, D.allF, Bool.and_eq_true] at e
    refine .obj (dx := dx) ?_ (DatM.anyB hs e.2)
    cases f <;> first | exact h | cases e.1
theorem Dats.anyB {K : PySem.W.Frag} {G B B' H : Hp} : ∀ {S : List Addr} {v : List V} {d : List D}, Dats K G B H S v d → D.allFL borF d = true → Dats K G B' H S v d
  | _, _, _, .nil, _ => .nil
  | _, _, _, .cons n h t, e => by
    rw [D.allFL, Bool.and_eq_true] at e
    exact .cons n (Dat.anyB h e.1) (Dats.anyB t e.2)
theorem DatM.anyB {K : PySem.W.Frag} {G B B' H : Hp} : ∀ {S : List Addr} {v : List (Kd × V)} {d : List (Kd × D)}, DatM K G B H S v d → D.allFK borF d = true → DatM K G B' H S v d
  | _, _, _, .nil, _ => .nil
  | _, _, _, .cons n h t, e => by
    rw [D.allFK, Bool.and_eq_true] at e
    exact .cons n (Dat.anyB h e.1) (DatM.anyB t e.2)
end
open Classical in
/-- what may be lent: what is neither settled nor at T -/
noncomputable def less (G : Hp) (T : Addr → Prop) (H : Hp) : Hp := fun a => if T a then none else match G a with
  | some _ => none
  | none => H a
theorem less_at {G H : Hp} {T : Addr → Prop} {a : Addr} {o : HO} (h : H a = some o) (g : G a = none) (t : ¬ T a) : less G T H a = some o := by
  unfold less
  rw [if_neg t, g]
  exact h
theorem less_of {G H : Hp} {T : Addr → Prop} {a : Addr} {o : HO} (h : less G T H a = some o) : H a = some o ∧ G a = none ∧ ¬ T a := by
  unfold less at h
  by_cases t : T a
  · rw [if_pos t] at h; cases h
  · rw [if_neg t] at h
    cases g : G a with
    | some u => rw [g] at h; cases h
    | none => rw [g] at h; exact ⟨h, rfl, t⟩
theorem less_or {G H : Hp} (gh : Same G H) {T : Addr → Prop} {a : Addr} {o : HO} (h : H a = some o) (t : ¬ T a) : less G T H a = some o ∨ G a = some o := by
  cases g : G a with
  | none => exact .inl (less_at h g t)
  | some u => have := gh a u g; rw [h] at this; cases this; exact .inr rfl
theorem view_old (d : D) : d.view.old := root_mapF (fun f => by cases f <;> simp [viewF]) d
/-- a tree as it is lent -/
theorem dat_view {K : PySem.W.Frag} {G B H G' H' : Hp} {T : Addr → Prop} {S : List Addr} {v : V} {d : D} (g : Same G G') (gh : Same G' H) (bh : Same B H) (hS : ∀ a ∈ S, ¬ T a) (hB : ∀ a o, B a = some o → ¬ T a) (hG : ∀ a o, G a = some o → ¬ T a) (hd : Dat K G B H S v d) : Dat K G' (less G' T H) H' [] v d.view := by
  refine Dat.turn g (fun p vs q => ?_) rfl (fun f => by cases f <;> simp [viewF]) (fun f p o n m => ?_) hd
  · rcases q with (q | q) | q
    · rcases q with q | ⟨ob, q⟩
      · rcases less_or gh (bh _ _ q) (hB _ _ q) with z | z
        · exact .inl (.inl (.inl z))
        · exact .inr (.inl (.inl z))
      · rcases less_or gh (bh _ _ q) (hB _ _ q) with z | z
        · exact .inl (.inl (.inr ⟨ob, z⟩))
        · exact .inr (.inl (.inr ⟨ob, z⟩))
    · exact .inl (.inr q)
    · exact .inr (g.seq q)
  · cases f with
    | own => exact ⟨less_or gh n (hS p (m p (by simp [Fl.ad]))), rfl⟩
    | new => exact ⟨less_or gh n (hS p (m p (by simp [Fl.ad]))), rfl⟩
    | frz => exact ⟨.inr (g p o n), rfl⟩
    | bor => exact ⟨n.elim (fun n => less_or gh (bh p o n) (hB p o n)) (fun n => .inr (g p o n)), rfl⟩
    | loc => exact n.elim
def Sl.view : Sl → Sl
  | .val d => .val d.view
  | x => x
def Plc.view (ρ : Plc) : Plc := ⟨ρ.s.map Sl.view, ρ.a.map (Option.map D.view)⟩
/-- all places lent -/
theorem VRep.lend {K : PySem.W.Frag} {G B Φ H : Hp} {As : List V} {S : Pi → List Addr} {σ : L2.St} {ρ : Plc} {T : Addr → Prop} (r : VRep K G B Φ H As S σ ρ) (hS : ∀ i, ∀ a ∈ S i, ¬ T a) (hP : ∀ a, T a → Φ a = none ∧ G a = none) : SOk K G (less G T H) H As σ ρ.view := by
  have hB : ∀ a o, B a = some o → ¬ T a := fun a o e t => by
    have := r.bp a o e
    rw [(hP a t).1] at this; cases this
  have hG : ∀ a o, G a = some o → ¬ T a := fun a o e t => by rw [(hP a t).2] at e; cases e
  refine ⟨r.gh, fun a o e => (less_of e).1, by simp [Plc.view, r.len], fun i d e => ?_, fun i j e => ?_, fun j d e => ?_⟩
  · simp only [Plc.view, List.getElem?_map] at e
    cases e2 : ρ.s[i]? with
    | none => rw [e2] at e; cases e
    | some x =>
      rw [e2] at e
      cases x with
      | no => cases e
      | arg j => cases e
      | val d' =>
        cases e
        obtain ⟨n, v, h1, h2⟩ := r.slot i d' e2
        exact ⟨view_old _, v, h1, [], dat_view (fun _ _ e => e) r.gh (bh_of r) (hS _) hB hG h2⟩
  · simp only [Plc.view, List.getElem?_map] at e
    cases e2 : ρ.s[i]? with
    | none => rw [e2] at e; cases e
    | some x =>
      rw [e2] at e
      cases x with
      | no => cases e
      | val d => cases e
      | arg k => cases e; exact r.arg i j e2
  · simp only [Plc.view, List.getElem?_map] at e
    cases e2 : ρ.a[j]? with
    | none => rw [e2] at e; cases e
    | some x =>
      rw [e2] at e
      cases x with
      | none => cases e
      | some d' =>
        cases e
        obtain ⟨n, v, h1, h2⟩ := r.ar j d' e2
        exact ⟨view_old _, v, h1, [], dat_view (fun _ _ e => e) r.gh (bh_of r) (hS _) hB hG h2⟩
theorem kept_noOwn {d : D} (h : d.kept = true) : d.noOwn = true := allF_mono (fun f e => by cases f <;> simp [keepF, ownF] at *) d h
theorem kept_noBor {d : D} (h : d.kept = true) : d.noBor = true := allF_mono (fun f e => by cases f <;> simp [keepF, borF] at *) d h
mutual
theorem view_lent : ∀ d : D, d.view.lent = true
  | .tup xs => by simp only [D.view, D.mapF, D.lent, D.allF]; exact viewL_lent xs
  | .tuk xs => by simp only [D.view, D.mapF, D.lent, D.allF]; exact viewL_lent xs
  | .lst f xs => by
    simp only [D.view, D.mapF, D.lent, D.allF, Bool.and_eq_true]
    exact ⟨by cases f <;> rfl, viewL_lent xs⟩
  | .dic f xs => by
    simp only [D.view, D.mapF, D.lent, D.allF, Bool.and_eq_true]
    exact ⟨by cases f <;> rfl, viewK_lent xs⟩
  | .dit f xs => by
    simp only [D.view, D.mapF, D.lent, D.allF, Bool.and_eq_true]
    exact ⟨by cases f <;> rfl, viewK_lent xs⟩
  | .obj f C xs => by
    simp only [D.view, D.mapF, D.lent, D.allF, Bool.and_eq_true]
    exact ⟨by cases f <;> rfl, viewK_lent xs⟩
  | .non => rfl
  | .bl _ => rfl
  | .int _ => rfl
  | .str _ => rfl
  | .ty _ => rfl
  | .ref _ => rfl
theorem viewL_lent : ∀ ds : List D, D.allFL lentF (D.mapFL viewF ds) = true
  | [] => rfl
  | d :: ds => by rw [D.mapFL, D.allFL, viewL_lent ds]; exact (Bool.and_true _).trans (view_lent d)
theorem viewK_lent : ∀ ds : List (Kd × D), D.allFK lentF (D.mapFK viewF ds) = true
  | [] => rfl
  | (k, d) :: ds => by rw [D.mapFK, D.allFK, viewK_lent ds]; exact (Bool.and_true _).trans (view_lent d)
end
theorem exn_plain {K : PySem.W.Frag} {G B B' H : Hp} {x : Exn} {cls : Value} {dx : Option Addr} (h : ExnR K G B H x cls dx) (p : x.plain = true) : ExnR K G B' H x cls dx := by
  obtain ⟨h1, h2⟩ := h
  refine ⟨h1, ?_⟩
  unfold Exn.plain at p
  cases e : x.flds with
  | none => rw [e] at h2; exact h2
  | some fs =>
    rw [e] at h2 p
    obtain ⟨d, vs, a, b, S, c⟩ := h2
    exact ⟨d, vs, a, b, S, c.anyB (allFK_mono (fun f z => by simp [plainF] at z) fs p)⟩
end VL

/-! VLo: quiet calls. -/
namespace VL
open PySem PySem.Spec PyProof.Rows L2

/-- what a call hands back, where nothing else is owned: its root is new, what hangs on it is settled -/
def D.q : D → D
  | .lst .own xs => .lst .new (D.mapFL fzF xs)
  | .dic .own xs => .dic .new (D.mapFK fzF xs)
  | .dit .own xs => .dit .new (D.mapFK fzF xs)
  | .obj .own C xs => .obj .new C (D.mapFK fzF xs)
  | d => d.fz
section
variable {K : PySem.W.Frag} {G B H G2 H' G3 H3 : Hp} {Tm : Addr → Prop}
theorem left_h (e : Ext G H G2 H') (hT : ∀ a, Tm a → H a = none) (L : Left G2 (less G2 Tm H') G3 H3) : Same H H3 := fun a o h => by
  have h' := e.h a o h
  have nt : ¬ Tm a := fun t => by rw [hT a t] at h; cases h
  rcases less_or e.gh h' nt with z | z
  · exact L.bh a o z
  · exact L.gh a o (L.g a o z)
theorem left_new (e : Ext G H G2 H') (hT : ∀ a, Tm a → H a = none) (L : Left G2 (less G2 Tm H') G3 H3) {a : Addr} {o : HO} (h : G3 a = some o) : G a = some o ∨ H a = none := by
  cases z : H a with
  | none => exact .inr rfl
  | some u =>
    have h' := e.h a u z
    have nt : ¬ Tm a := fun t => by rw [hT a t] at z; cases z
    rcases less_or e.gh h' nt with y | y
    · rw [L.dis a u y] at h; cases h
    · have w := L.g a u y
      rw [h] at w
      cases w
      rcases e.new a o y with x | x
      · exact .inl x
      · rw [x] at z; cases z
theorem left_out (e : Ext G H G2 H') (hT : ∀ a, Tm a → H a = none) (L : Left G2 (less G2 Tm H') G3 H3) {a : Addr} (g : G3 a = none) (b : less G2 Tm H' a = none) : H a = none := by
  cases z : H a with
  | none => rfl
  | some u =>
    have h' := e.h a u z
    have nt : ¬ Tm a := fun t => by rw [hT a t] at z; cases z
    rcases less_or e.gh h' nt with y | y
    · rw [b] at y; cases y
    · rw [L.g a u y] at g; cases g
theorem left_ext (e : Ext G H G2 H') (hT : ∀ a, Tm a → H a = none) (L : Left G2 (less G2 Tm H') G3 H3) {U : List Addr} (hU : ∀ a ∈ U, G3 a = none ∧ less G2 Tm H' a = none) : Ext G H (more G3 H3 U) H3 :=
  ⟨left_h e hT L, (e.g.trans L.g).trans (more_same fun a m => (hU a m).1), fun a o h => by
    unfold more at h
    split at h
    · rename_i m; exact .inr (left_out e hT L (hU a m).1 (hU a m).2)
    · exact left_new e hT L h, fun a o h => by
    unfold more at h
    split at h
    · exact h
    · exact L.gh a o h⟩
theorem more_nil {G H : Hp} : more G H [] = G := by funext a; simp [more]
theorem turn_fz {G B H : Hp} {H' : Hp} {T : List Addr} (h : ∀ a ∈ T, G a = none) : Turn G B H (more G H T) B H' T fzF := fun f p o n m => by
  cases f with
  | own => exact ⟨by show more G H T p = some o; rw [more_at (m p (by simp [Fl.ad]))]; exact n, rfl⟩
  | new => exact ⟨by show more G H T p = some o; rw [more_at (m p (by simp [Fl.ad]))]; exact n, rfl⟩
  | frz => exact ⟨more_same h p o n, rfl⟩
  | bor => exact ⟨n.imp id (more_same h p o), rfl⟩
  | loc => exact n.elim
theorem fzF_new : ∀ f, fzF f ≠ .new := fun f => by cases f <;> simp [fzF]
theorem q_res {T : List Addr} {v : V} {d : D} (e : Ext G H G2 H') (hT : ∀ a, Tm a → H a = none) (L : Left G2 (less G2 Tm H') G3 H3) (hd : Dat K G3 (less G2 Tm H') H3 T v d) (nb : d.noBor = true) (t1 : T.Nodup) (t2 : ∀ a ∈ T, G3 a = none ∧ less G2 Tm H' a = none ∧ ∃ o, H3 a = some o ∧ HO.free o) :
    ∃ G4, Ext G H G4 H3 ∧ Dt K G4 B H3 v d.q ∧ Fresh H G4 v d.q := by
  have hB : Dat K G3 B H3 T v d := hd.anyB nb
  have gen : d.q = d.fz → ∃ G4, Ext G H G4 H3 ∧ Dt K G4 B H3 v d.q ∧ Fresh H G4 v d.q := fun z => by
    refine ⟨_, left_ext e hT L fun a m => ⟨(t2 a m).1, (t2 a m).2.1⟩, ⟨[], ?_⟩, ?_⟩
    · rw [z]; exact dat_fz hB fun a m => (t2 a m).1
    · rw [z]; exact Fresh.of (fz_old d)
  have own : ∀ {p : Addr} {U : List Addr}, T = p :: U → (∀ a ∈ U, G3 a = none ∧ less G2 Tm H' a = none) ∧ H p = none ∧ more G3 H3 U p = none ∧ ∃ o, H3 p = some o ∧ HO.free o := fun {p U} z => by
    subst z
    obtain ⟨a1, a2, a3⟩ := t2 p (by simp)
    refine ⟨fun a m => ⟨(t2 a (List.mem_cons_of_mem _ m)).1, (t2 a (List.mem_cons_of_mem _ m)).2.1⟩, left_out e hT L a1 a2, ?_, a3⟩
    unfold more
    rw [if_neg (List.nodup_cons.mp t1).1]
    exact a1
  have unl : ∀ {p : Addr} {ho : HO}, (∃ o, H3 p = some o ∧ HO.free o) → NdR G3 B H3 .own p ho → H3 p = some ho := fun {p ho} ⟨o, h1, h2⟩ n => by
    rcases n with n | ⟨_, ob, n⟩
    · exact n
    · rw [show H3 p = some (.frz ob ho) from n] at h1
      cases h1
      exact absurd rfl (h2 ob ho)
  cases d with
  | lst f xs =>
    cases f with
    | own =>
      cases hB with
      | lst n hs =>
        obtain ⟨o1, o2, o3, _⟩ := own rfl
        exact ⟨_, left_ext e hT L o1, ⟨_, .lst (f := .new) n (Dats.turn (more_same fun a m => (o1 a m).1) (fun p vs q => q.imp id (more_same fun a m => (o1 a m).1).seq) rfl fzF_new (turn_fz fun a m => (o1 a m).1) hs)⟩, fun _ => ⟨_, rfl, o2, o3⟩⟩
    | _ => exact gen rfl
  | dic f xs =>
    cases f with
    | own =>
      cases hB with
      | dic n hs =>
        obtain ⟨o1, o2, o3, o4⟩ := own rfl
        exact ⟨_, left_ext e hT L o1, ⟨_, .dic (f := .new) (.inl (unl o4 n)) (DatM.turn (more_same fun a m => (o1 a m).1) (fun p vs q => q.imp id (more_same fun a m => (o1 a m).1).seq) rfl fzF_new (turn_fz fun a m => (o1 a m).1) hs)⟩, fun _ => ⟨_, rfl, o2, o3⟩⟩
    | _ => exact gen rfl
  | dit f xs =>
    cases f with
    | own =>
      cases hB with
      | dit n hs =>
        obtain ⟨o1, o2, o3, o4⟩ := own rfl
        exact ⟨_, left_ext e hT L o1, ⟨_, .dit (f := .new) (.inl (unl o4 n)) (DatM.turn (more_same fun a m => (o1 a m).1) (fun p vs q => q.imp id (more_same fun a m => (o1 a m).1).seq) rfl fzF_new (turn_fz fun a m => (o1 a m).1) hs)⟩, fun _ => ⟨_, rfl, o2, o3⟩⟩
    | _ => exact gen rfl
  | obj f C xs =>
    cases f with
    | own =>
      cases hB with
      | obj n hs =>
        obtain ⟨o1, o2, o3, _⟩ := own rfl
        exact ⟨_, left_ext e hT L o1, ⟨_, .obj (f := .new) n (DatM.turn (more_same fun a m => (o1 a m).1) (fun p vs q => q.imp id (more_same fun a m => (o1 a m).1).seq) rfl fzF_new (turn_fz fun a m => (o1 a m).1) hs)⟩, fun _ => ⟨_, rfl, o2, o3⟩⟩
    | _ => exact gen rfl
  | _ => exact gen rfl
end

/-! ### arguments of a quiet call -/
def giveQ : List Md → List D → Option (List D)
  | [], [] => some []
  | .r :: ms, d :: ds => (giveQ ms ds).map (d.view :: ·)
  | .k :: ms, d :: ds => if d.st.kept = true then (giveQ ms ds).map (d.st :: ·) else none
  | _, _ => none
theorem grab_none {H G1 H1 : Hp} {a : Addr} (h : grab H G1 H1 a = none) : G1 a = none ∧ (H a = none → H1 a = none) := by
  unfold grab at h
  cases q1 : G1 a with
  | some u => rw [q1] at h; cases h
  | none =>
    rw [q1] at h
    refine ⟨rfl, fun z => ?_⟩
    rw [z] at h
    exact h
theorem give_at {K : PySem.W.Frag} {G B H G' H' : Hp} {Tm : Addr → Prop} (e : Ext G H G' H') (bh : Same B H) (hT : ∀ a, Tm a → H' a = none) : ∀ {ms : List Md} {vs : List V} {ds es : List D}, Dta K G' B H' vs ds → (∀ v d, (v, d) ∈ vs.zip ds → Fresh H G' v d) → giveQ ms ds = some es →
    vs.length = ms.length ∧ es.length = ms.length ∧ ∀ (j : Nat) (md : Md) (v : V) (d : D), ms[j]? = some md → vs[j]? = some v → es[j]? = some d → Dat K (grab H G' H') (less (grab H G' H') Tm H') H' [] v d ∧ MOk md [] d := by
  obtain ⟨e2, s⟩ := grab_ext e
  have bh' : Same B H' := fun a o q => e.h a o (bh a o q)
  intro ms
  induction ms with
  | nil =>
    intro vs ds es hd fr h
    cases hd with
    | nil => cases h; exact ⟨rfl, rfl, fun j md v d a => by simp at a⟩
    | cons _ _ => simp [giveQ] at h
  | cons md ms ih =>
    intro vs ds es hd fr h
    cases hd with
    | nil => cases md <;> simp [giveQ] at h
    | @cons v d vs ds hv ht =>
      have key : ∀ (d' : D) (es' : List D), giveQ ms ds = some es' → es = d' :: es' → Dat K (grab H G' H') (less (grab H G' H') Tm H') H' [] v d' ∧ MOk md [] d' → (v :: vs).length = (md :: ms).length ∧ es.length = (md :: ms).length ∧ ∀ (j : Nat) (md' : Md) (v' : V) (d' : D), (md :: ms)[j]? = some md' → (v :: vs)[j]? = some v' → es[j]? = some d' → Dat K (grab H G' H') (less (grab H G' H') Tm H') H' [] v' d' ∧ MOk md' [] d' := fun d' es' h1 h2 h3 => by
        obtain ⟨i1, i2, i3⟩ := ih ht (fun v d m => fr v d (by simp [m])) h1
        subst h2
        refine ⟨by simp [i1], by simp [i2], fun j md' v' d'' a b c => ?_⟩
        cases j with
        | zero => simp at a b c; subst a b c; exact h3
        | succ j => exact i3 j md' v' d'' (by simpa using a) (by simpa using b) (by simpa using c)
      cases md with
      | m => simp [giveQ] at h
      | r =>
        simp only [giveQ, Option.map_eq_some_iff] at h
        obtain ⟨es', h1, rfl⟩ := h
        refine key _ _ h1 rfl ⟨?_, rfl, view_lent d⟩
        obtain ⟨S, hv⟩ := hv
        have nT : ∀ {H0 : Hp} {a : Addr} {o : HO}, Same H0 H' → H0 a = some o → ¬ Tm a := fun s q t => by
          have := s _ _ q
          rw [hT _ t] at this; cases this
        refine Dat.turn s (fun p vs q => ?_) rfl (fun f => by cases f <;> simp [viewF]) (fun f p o n m => ?_) hv
        · rcases q with (q | q) | q
          · rcases q with q | ⟨ob, q⟩
            · exact (less_or e2.gh (bh' _ _ q) (nT bh' q)).elim (fun z => .inl (.inl (.inl z))) fun z => .inr (.inl (.inl z))
            · exact (less_or e2.gh (bh' _ _ q) (nT bh' q)).elim (fun z => .inl (.inl (.inr ⟨ob, z⟩))) fun z => .inr (.inl (.inr ⟨ob, z⟩))
          · exact .inl (.inr q)
          · exact .inr (s.seq q)
        · cases f with
          | own => exact ⟨less_or e2.gh n (nT (fun _ _ q => q) n), rfl⟩
          | new => exact ⟨less_or e2.gh n (nT (fun _ _ q => q) n), rfl⟩
          | frz => exact ⟨.inr (s p o n), rfl⟩
          | bor => exact ⟨n.elim (fun n => less_or e2.gh (bh' p o n) (nT bh' n)) (fun n => .inr (s p o n)), rfl⟩
          | loc => exact n.elim
      | k =>
        simp only [giveQ] at h
        by_cases hk : d.st.kept = true
        · rw [if_pos hk, Option.map_eq_some_iff] at h
          obtain ⟨es', h1, rfl⟩ := h
          refine key _ _ h1 rfl ⟨?_, rfl, hk⟩
          obtain ⟨S, hS⟩ := st_dt e hv (fr v d (by simp))
          have := hS.noS (kept_noOwn hk)
          subst this
          exact hS.anyB (kept_noBor hk)
        · rw [if_neg hk] at h; cases h
def resQ : OF → Out Exn D
  | .rt d _ => .ok d.q
  | .ex x _ => .ex x
  | .no => .no
def callQ (ms : List Md) (F : Fn) (ds : List D) : Out Exn D := match giveQ ms ds with
  | some es => resQ (F es)
  | none => .no
theorem Regs.nil {G B H : Hp} : Regs G B H fun _ => [] := ⟨(fun _ => .nil), (fun _ _ _ _ m => by cases m), (fun _ _ m => by cases m)⟩
theorem callq_up {K : PySem.W.Frag} {W : WX} {σ : L2.St} {G B H G' H' : Hp} {R : VK} {ms : List Md} {F : Fn} {vs : List V} {ds : List D} (e : Ext G H G' H') (bh : Same B H) (hd : Dta K G' B H' vs ds) (fr : ∀ v d, (v, d) ∈ vs.zip ds → Fresh H G' v d)
    (q : (callQ ms F ds).P (KQ K G B H R) (EX K W G B H σ)) : liftF K ms F vs H' R (WE W σ) := by
  unfold callQ at q
  cases hg : giveQ ms ds with
  | none => rw [hg] at q; exact q.elim
  | some es =>
    rw [hg] at q
    obtain ⟨e2, s⟩ := grab_ext e
    obtain ⟨l1, l2, at'⟩ := give_at (Tm := fun _ => False) e bh (fun _ z => z.elim) hd fr hg
    refine ⟨grab H G' H', less (grab H G' H') (fun _ => False) H', fun _ => [], es, ⟨e2.gh, fun a o z => (less_of z).1, fun a o z => (less_of z).2.1, l1, l2, at', .nil⟩, ?_⟩
    simp only at q
    cases hF : F es with
    | no => rw [hF] at q; exact q.elim
    | rt d os =>
      rw [hF] at q
      intro G3 H3 Sa' v T L co hv n nb t1 t2
      obtain ⟨G4, e4, hd4, fr4⟩ := q_res (B := B) e2 (fun _ z => z.elim) L hv nb t1 fun a m => (t2 a m).2
      exact q G4 H3 v e4 hd4 fr4
    | ex x os =>
      rw [hF] at q
      intro G3 H3 Sa' cls dx L co er pl
      have e4 := left_ext (U := []) e2 (fun _ z => z.elim) L fun a m => by cases m
      rw [more_nil] at e4
      exact q G3 H3 cls dx e4 (exn_plain er pl)
def qCall (ms : List Md) (F : Fn) (fa : FA) : FQ := fun ρ => (fa ρ).bind (callQ ms F)
def isObj (C : Addr) (m : Str) : D → Bool
  | .obj _ C' fs => decide (C' = C) && fs.all fun e => decide (e.1 ≠ kS m)
  | _ => false
def qMeth (C : Addr) (m : Str) (ms : List Md) (F : Fn) (fo : FQ) (fa : FA) : FQ := fun ρ => (fo ρ).bind fun o => if isObj C m o = true then (fa ρ).bind fun ds => callQ ms F (o :: ds) else .no
theorem dtm_lookup {K : PySem.W.Frag} {G B H : Hp} {m : Str} : ∀ {vs : List (Str × V)} {ds : List (Kd × D)}, Dtm K G B H (vs.map kF) ds → (ds.all fun e => decide (e.1 ≠ kS m)) = true → vs.lookup m = none
  | [], _, _, _ => rfl
  | (k, v) :: vs, [], h, _ => by have := h.length; simp at this
  | (k, v) :: vs, (k', d) :: ds, h, e => by
    simp only [List.map_cons, kF] at h
    obtain ⟨h1, _, _, h4⟩ := h.uncons
    simp only [List.all_cons, Bool.and_eq_true, decide_eq_true_eq] at e
    subst h1
    have hk : (m == k) = false := by
      simp only [beq_eq_false_iff_ne]
      intro z
      exact e.1 (by rw [z])
    rw [List.lookup_cons, hk]
    exact dtm_lookup h4 (by simpa using e.2)
theorem is_obj {K : PySem.W.Frag} {G B H : Hp} {C : Addr} {m : Str} {v : V} {d : D} (gh : Same G H) (bh : Same B H) (hd : Dt K G B H v d) (h : isObj C m d = true) : ∃ a dx fs, v = .ref a ∧ H a = some (.ins C dx fs) ∧ fs.lookup m = none := by
  cases d with
  | obj f C' fs =>
    simp only [isObj, Bool.and_eq_true, decide_eq_true_eq] at h
    obtain ⟨h1, h2⟩ := h
    subst h1
    obtain ⟨p, dx, vs, rfl, h3, h4⟩ := dt_obj gh bh hd
    exact ⟨p, dx, vs, rfl, h3, dtm_lookup h4 (by simpa using h2)⟩
  | _ => cases h
section
variable {X : Cx} {W : WX} {pos p apos : Pos} {x m : Str} {e o : Expr} {es : List Expr} {fa : FA} {fo : FQ} {k : Nat} {ms : List Md} {F : Fn} {C : Addr}
theorem qe_call (F' : VFn X.prog X.w X.K X.mg X.base x k ms F) (hr : Room k X.A) (tk : Takes X W) (ha : QA X W (e :: es) fa) (hg : Gl X x := by rfl) (hdb : (x == ("__debug__" : Str)) = false := by decide)
    (he : starEach (e :: es) X.env = (false, eval e X.env) :: starEach es X.env := by rfl) (hpl : (backTo pos (starEach es X.env)).any (·.1) = false := by rfl) : QE X W (.Call (.Name x p) (e :: es) [] pos) (qCall ms F fa) := by
  obtain ⟨f, fd, ps, F', hm, hk, hb⟩ := F'.ex
  refine peI (pe_callS F' hr hg hm hk hb (fun σ => passAt tk σ) ha hdb he hpl) fun σ H R ⟨G, B, As, ρ, so, q⟩ => ?_
  exact ⟨G, B, As, ρ, so, Out.P_mono (Out.P_bind.mp q) (fun ds q1 G1 H1 vs e1 hd fr => callq_up e1 so.bh hd fr q1) fun _ z => z⟩
theorem pe_call0S {CX : CXT} {f : Addr} {fd : FuncData} {ps : List Str} {sp : Sp} {E : L2.St → XK} (F : FnOk X.prog X.w X.K X.mg X.base CX k f fd ps sp) (hr : Room k X.A) (hg : Gl X x) (hm : X.mg x = some (.ref f)) (hk : PySem.W.keepIn X.K (.ref f) = true) (hb : Binds X.K fd ps []) (hx : ∀ σ, PassesAt CX X σ (E σ))
    (hdb : (x == ("__debug__" : Str)) = false := by decide) : PE X (.Call (.Name x p) [] [] pos) (fun σ H Q => sp [] H Q (E σ)) :=
  ⟨fun pins s σ H Q I h => wpAny_Call_Name_kw (ld_glob I hg hm (PySem.W.callWith_K0 I.kIn hk (run_fnS F hr hb (hx σ) I .nil h)) hdb)⟩
theorem qe_call0 (F' : VFn X.prog X.w X.K X.mg X.base x k ms F) (hr : Room k X.A) (tk : Takes X W) (hg : Gl X x := by rfl) (hdb : (x == ("__debug__" : Str)) = false := by decide) : QE X W (.Call (.Name x p) [] [] pos) (qCall ms F aNil) := by
  obtain ⟨f, fd, ps, F', hm, hk, hb⟩ := F'.ex
  refine peI (pe_call0S F' hr hg hm hk hb (fun σ => passAt tk σ) hdb) fun σ H R ⟨G, B, As, ρ, so, q⟩ => ?_
  exact callq_up (Ext.refl so.gh) so.bh .nil (fun v d m => by simp at m) q
theorem pe_methS {CX : CXT} {f : Addr} {fd : FuncData} {ps : List Str} {sp : Sp} {E : L2.St → XK} {pl : Sem Bool} {te : TE} {t : TA} (he : PE X o te) (c : Cls X.K C) (hm : Meth X.K C m f) (F : FnOk X.prog X.w X.K X.mg X.base CX k f fd ps sp) (hr : Room k X.A) (hb : Binds X.K fd ps [])
    (hx : ∀ σ, PassesAt CX X σ (E σ)) (ha : PA X (e :: es) t)
    (hst : starEach (e :: es) X.env = (false, eval e X.env) :: starEach es X.env := by rfl) (hpl : (backTo pos (starEach es X.env)).any (·.1) = false := by rfl)
    (ht : eval (.Call (.Attribute o m apos) (e :: es) [] pos) X.env = (do
      let ov ← eval o X.env
      standAt apos.atName
      let (f, first) ← holding [ov] (getMethod ov m pl)
      callWith pos f first (backTo pos (starEach (e :: es) X.env)) (backToKw pos (keywordEach [] X.env))) := by rfl) :
    PE X (.Call (.Attribute o m apos) (e :: es) [] pos) (fun σ H Q => te σ H fun x H1 => ∃ a dx fs, x = .ref a ∧ H1 a = some (.ins C dx fs) ∧ fs.lookup m = none ∧ t σ H1 fun vs H2 => sp (x :: vs) H2 Q (E σ)) := by
  constructor
  intro pins s σ H Q I h
  apply PySem.W.methodCall_KW (pl := pl) _ ht
  refine thn (he.run pins s σ H _ I h) ?_
  rintro u s1 ⟨x, H1, I1, rx, a, dx, fs, rfl, ea, l, q⟩
  obtain rfl : u = Value.ref a := rx
  apply getmeth_ok I1 ea c hm l
  have hgo := thn (ha.run pos pins s1 σ H1 _ I1 q) fun us s2 ⟨vs, H2, I2, r, q2⟩ => (⟨I2.kIn, run_fnS (us := .ref a :: us) (vs := .ref a :: vs) F hr hb (hx σ) I2 (.cons rfl r) q2⟩ : X.K.In s2.heap ∧ _)
  exact PySem.W.callWith_K (first := [.ref a]) (h₀ := X.base) I.ok.mod.kin hm.kp hgo hst hpl
theorem pe_meth0S {CX : CXT} {f : Addr} {fd : FuncData} {ps : List Str} {sp : Sp} {E : L2.St → XK} {pl : Sem Bool} {te : TE} (he : PE X o te) (c : Cls X.K C) (hm : Meth X.K C m f) (F : FnOk X.prog X.w X.K X.mg X.base CX k f fd ps sp) (hr : Room k X.A) (hb : Binds X.K fd ps [])
    (hx : ∀ σ, PassesAt CX X σ (E σ))
    (ht : eval (.Call (.Attribute o m apos) [] [] pos) X.env = (do
      let ov ← eval o X.env
      standAt apos.atName
      let (f, first) ← holding [ov] (getMethod ov m pl)
      callWith pos f first (backTo pos (starEach [] X.env)) (backToKw pos (keywordEach [] X.env))) := by rfl) :
    PE X (.Call (.Attribute o m apos) [] [] pos) (fun σ H Q => te σ H fun x H1 => ∃ a dx fs, x = .ref a ∧ H1 a = some (.ins C dx fs) ∧ fs.lookup m = none ∧ sp [x] H1 Q (E σ)) := by
  constructor
  intro pins s σ H Q I h
  apply PySem.W.methodCall_KW (pl := pl) _ ht
  refine thn (he.run pins s σ H _ I h) ?_
  rintro u s1 ⟨x, H1, I1, rx, a, dx, fs, rfl, ea, l, q⟩
  obtain rfl : u = Value.ref a := rx
  apply getmeth_ok I1 ea c hm l
  exact PySem.W.callWith_K0 (first := [.ref a]) I1.kIn hm.kp (run_fnS (us := [.ref a]) (vs := [.ref a]) F hr hb (hx σ) I1 (.cons rfl .nil) q)
theorem qe_meth {pl : Sem Bool} (c : Cls X.K C) (F' : VMt X.prog X.w X.K X.mg X.base C m k ms F) (hr : Room k X.A) (tk : Takes X W) (ho : QE X W o fo) (ha : QA X W (e :: es) fa)
    (hst : starEach (e :: es) X.env = (false, eval e X.env) :: starEach es X.env := by rfl) (hpl : (backTo pos (starEach es X.env)).any (·.1) = false := by rfl)
    (ht : eval (.Call (.Attribute o m apos) (e :: es) [] pos) X.env = (do
      let ov ← eval o X.env
      standAt apos.atName
      let (f, first) ← holding [ov] (getMethod ov m pl)
      callWith pos f first (backTo pos (starEach (e :: es) X.env)) (backToKw pos (keywordEach [] X.env))) := by rfl) : QE X W (.Call (.Attribute o m apos) (e :: es) [] pos) (qMeth C m ms F fo fa) := by
  obtain ⟨f, fd, ps, F', hm, hb⟩ := F'.ex
  refine peI (pe_methS ho c hm F' hr hb (fun σ => passAt tk σ) ha hst hpl ht) fun σ H R ⟨G, B, As, ρ, so, q⟩ => ?_
  refine upQ_bind so q fun d G1 H1 v e1 hd fr q1 => ?_
  obtain ⟨ho, q1⟩ := Out.P_ifn q1
  obtain ⟨a, dx, fs, rfl, h1, h2⟩ := is_obj e1.gh (so.ext e1).bh hd ho
  refine ⟨a, dx, fs, rfl, h1, h2, G1, B, As, ρ, so.ext e1, Out.P_mono (Out.P_bind.mp q1) (fun ds q2 G2 H2 vs e2 hds frs => ?_) fun _ z => EX.ext e1 z⟩
  exact callq_up (e1.trans e2) so.bh (.cons (Dt.ext e2 hd) hds) (fun v' d' m' => by
    rcases List.mem_cons.mp m' with m' | m'
    · cases m'; exact Fresh.on fr hd e2
    · exact (frs v' d' m').back e1) q2
theorem qe_meth0 {pl : Sem Bool} (c : Cls X.K C) (F' : VMt X.prog X.w X.K X.mg X.base C m k ms F) (hr : Room k X.A) (tk : Takes X W) (ho : QE X W o fo)
    (ht : eval (.Call (.Attribute o m apos) [] [] pos) X.env = (do
      let ov ← eval o X.env
      standAt apos.atName
      let (f, first) ← holding [ov] (getMethod ov m pl)
      callWith pos f first (backTo pos (starEach [] X.env)) (backToKw pos (keywordEach [] X.env))) := by rfl) : QE X W (.Call (.Attribute o m apos) [] [] pos) (qMeth C m ms F fo aNil) := by
  obtain ⟨f, fd, ps, F', hm, hb⟩ := F'.ex
  refine peI (pe_meth0S ho c hm F' hr hb (fun σ => passAt tk σ) ht) fun σ H R ⟨G, B, As, ρ, so, q⟩ => ?_
  refine upQ_bind so q fun d G1 H1 v e1 hd fr q1 => ?_
  obtain ⟨ho, q1⟩ := Out.P_ifn q1
  obtain ⟨a, dx, fs, rfl, h1, h2⟩ := is_obj e1.gh (so.ext e1).bh hd ho
  exact ⟨a, dx, fs, rfl, h1, h2, callq_up e1 so.bh (.cons hd .nil) (fun v' d' m' => by
    rcases List.mem_cons.mp m' with m' | m'
    · cases m'; exact fr
    · simp at m') q1⟩
end
end VL

/-! VLp: calls that change things. -/
namespace VL
open PySem PySem.Spec PyProof.Rows L2

/-- all is there for the call -/
structure Rdy (K : PySem.W.Frag) (G B Φ H : Hp) (As : List V) (S : Pi → List Addr) (σ : L2.St) (ρ : Plc) (ms : List Md) (Sa : Nat → List Addr) (vs : List V) (es : List D) (hs : List (Option Lc)) : Prop where
  rep : VRep K G B Φ H As S σ ρ
  tok : ∀ j, TOk (Sa j) S G Φ H
  dj : ∀ i j a, i ≠ j → a ∈ Sa i → a ∉ Sa j
  vl : vs.length = ms.length
  dl : es.length = ms.length
  at' : ∀ (j : Nat) (md : Md) (v : V) (d : D), ms[j]? = some md → vs[j]? = some v → es[j]? = some d → Dat K G (less G (fun a => ∃ j, a ∈ Sa j) H) H (Sa j) v d ∧ MOk md (Sa j) d
  back : ∀ (j : Nat) (l : Lc), hs[j]? = some (some l) → ms[j]? = some .m ∧ ∀ v, vs[j]? = some v → l.At σ As v
def putH : List (Option Lc) → List (Option D) → Plc → Plc
  | some l :: hs, some d :: os, ρ => putH hs os (ρ.put l d)
  | _ :: hs, _ :: os, ρ => putH hs os ρ
  | _, _, ρ => ρ
def afterG (o : OF) (hs : List (Option Lc)) (ρ : Plc) : Out (Exn × Plc) (D × Plc) := match o with
  | .rt d os => .ok (d, putH hs os ρ)
  | .ex x os => .ex (x, putH hs os ρ)
  | .no => .no
section
variable {K : PySem.W.Frag} {W : WX} {G B Φ H : Hp} {As : List V} {S : Pi → List Addr} {σ : L2.St} {ρ : Plc} {ms : List Md} {Sa : Nat → List Addr} {vs : List V} {es : List D} {hs : List (Option Lc)}
theorem VRep.left {G' H' : Hp} {Tm : Addr → Prop} (r : VRep K G B Φ H As S σ ρ) (hS : ∀ i, ∀ a ∈ S i, ¬ Tm a) (hP : ∀ a, Tm a → Φ a = none) (L : Left G (less G Tm H) G' H') : VRep K G' B Φ H' As S σ ρ ∧ (∀ i, ∀ a ∈ S i, less G Tm H a ≠ none) ∧ ∀ a o, Φ a = some o → less G Tm H a ≠ none := by
  have hl : ∀ i, ∀ a ∈ S i, ∃ o, H a = some o ∧ HO.free o ∧ less G Tm H a = some o ∧ Φ a = none := fun i a m => by
    obtain ⟨h1, h2, o, h3, h4⟩ := r.fr i a m
    exact ⟨o, h3, h4, less_at h3 h1 (hS i a m), h2⟩
  have hp : ∀ a o, Φ a = some o → less G Tm H a = some o := fun a o e => less_at (r.ph a o e) (r.dis a o e) fun t => by rw [hP a t] at e; cases e
  have on : ∀ i, On (S i) H H' := fun i a m o e => by
    obtain ⟨u, h1, _, h2, _⟩ := hl i a m
    rw [e] at h1; cases h1
    exact L.bh a o h2
  refine ⟨⟨L.gh, r.bp, fun a o e => L.bh a o (hp a o e), fun a o e => L.dis a o (hp a o e), r.len, r.alen, fun i d q => let ⟨n, v, h1, h2⟩ := r.slot i d q; ⟨n, v, h1, h2.mono L.g (fun _ _ q => q) (on _)⟩, r.arg, fun i d q => let ⟨n, v, h1, h2⟩ := r.ar i d q; ⟨n, v, h1, h2.mono L.g (fun _ _ q => q) (on _)⟩, r.nd, r.dj, fun i a m => ?_⟩, fun i a m => ?_, fun a o e => ?_⟩
  · obtain ⟨o, h1, h2, h3, h4⟩ := hl i a m
    exact ⟨L.dis a o h3, h4, o, L.bh a o h3, h2⟩
  · obtain ⟨o, h1, h2, h3, h4⟩ := hl i a m
    rw [h3]; simp
  · rw [hp a o e]; simp
/-- what was taken out goes back -/
theorem VRep.putH {Sa' : Nat → List Addr} {os : List (Option D)} {Sx : Addr → Prop} : ∀ (n : Nat) (hs : List (Option Lc)) (os' : List (Option D)) {S : Pi → List Addr} {ρ : Plc}, VRep K G B Φ H As S σ ρ → (∀ (j : Nat) (l : Lc) (d : D), hs[j]? = some (some l) → os'[j]? = some (some d) → ∃ v, l.At σ As v ∧ Dat K G B H (Sa' (n + j)) v d ∧ d.old ∧ (Sa' (n + j)).Nodup ∧ ∀ a ∈ Sa' (n + j), G a = none ∧ Φ a = none ∧ ∃ o, H a = some o ∧ HO.free o) →
    (∀ j, n ≤ j → ∀ a ∈ Sa' j, ∀ i, a ∉ S i) → (∀ i j a, i ≠ j → a ∈ Sa' i → a ∉ Sa' j) → ∃ S', VRep K G B Φ H As S' σ (VL.putH hs os' ρ) ∧ ∀ i a, a ∈ S' i → (∃ j, a ∈ S j) ∨ ∃ j, n ≤ j ∧ a ∈ Sa' j
  | n, [], os', S, ρ, r, _, _, _ => ⟨S, by cases os' <;> exact r, fun i a m => .inl ⟨i, m⟩⟩
  | n, h :: hs, [], S, ρ, r, _, _, _ => ⟨S, by cases h <;> exact r, fun i a m => .inl ⟨i, m⟩⟩
  | n, none :: hs, o :: os', S, ρ, r, h, k1, k2 => by
    obtain ⟨S', r', q⟩ := VRep.putH (Sa' := Sa') (os := os) (Sx := Sx) (n + 1) hs os' r (fun j l d e1 e2 => by
      have := h (j + 1) l d (by simpa using e1) (by simpa using e2)
      rwa [show n + (j + 1) = n + 1 + j by omega] at this) (fun j hj => k1 j (by omega)) k2
    exact ⟨S', by cases o <;> exact r', fun i a m => (q i a m).imp id fun ⟨j, h1, h2⟩ => ⟨j, by omega, h2⟩⟩
  | n, some l :: hs, none :: os', S, ρ, r, h, k1, k2 => by
    obtain ⟨S', r', q⟩ := VRep.putH (Sa' := Sa') (os := os) (Sx := Sx) (n + 1) hs os' r (fun j l d e1 e2 => by
      have := h (j + 1) l d (by simpa using e1) (by simpa using e2)
      rwa [show n + (j + 1) = n + 1 + j by omega] at this) (fun j hj => k1 j (by omega)) k2
    exact ⟨S', r', fun i a m => (q i a m).imp id fun ⟨j, h1, h2⟩ => ⟨j, by omega, h2⟩⟩
  | n, some l :: hs, some d :: os', S, ρ, r, h, k1, k2 => by
    obtain ⟨v, h1, h2, h3, h4, h5⟩ := h 0 l d rfl rfl
    rw [Nat.add_zero] at h2 h4 h5
    have r1 := r.putL h1 h2 h3 ⟨h4, fun a m => ⟨fun i => k1 n (Nat.le_refl _) a m i, h5 a m⟩⟩
    obtain ⟨S', r', q⟩ := VRep.putH (Sa' := Sa') (os := os) (Sx := Sx) (n + 1) hs os' r1 (fun j l d e1 e2 => by
      have := h (j + 1) l d (by simpa using e1) (by simpa using e2)
      rwa [show n + (j + 1) = n + 1 + j by omega] at this) (fun j hj a m i q => by
        by_cases hi : i = l.pi
        · subst hi
          rw [setS_same] at q
          exact k2 n j a (by omega) q m
        · rw [setS_ne hi] at q
          exact k1 j (by omega) a m i q) k2
    refine ⟨S', r', fun i a m => ?_⟩
    rcases q i a m with ⟨j, q⟩ | ⟨j, h1, q⟩
    · by_cases hj : j = l.pi
      · subst hj; rw [setS_same] at q; exact .inr ⟨n, Nat.le_refl _, q⟩
      · rw [setS_ne hj] at q; exact .inl ⟨j, q⟩
    · exact .inr ⟨j, by omega, q⟩
/-- what a call leaves, put back -/
theorem rdy_back {G' H' : Hp} {Sa' : Nat → List Addr} {os : List (Option D)} (rd : Rdy K G B Φ H As S σ ρ ms Sa vs es hs) (L : Left G (less G (fun a => ∃ j, a ∈ Sa j) H) G' H') (co : COut K G' (less G (fun a => ∃ j, a ∈ Sa j) H) H' ms Sa' vs os) :
    ∃ S', VRep K G' B Φ H' As S' σ (putH hs os ρ) ∧ ∀ i a, a ∈ S' i → less G (fun a => ∃ j, a ∈ Sa j) H a ≠ none ∨ ∃ j, a ∈ Sa' j := by
  obtain ⟨r1, r2, r3⟩ := rd.rep.left (fun i a m ⟨j, z⟩ => ((rd.tok j).2 a z).1 i m) (fun a ⟨j, z⟩ => ((rd.tok j).2 a z).2.2.1) L
  obtain ⟨S', r', q⟩ := VRep.putH (Sa' := Sa') (os := os) (Sx := fun _ => True) 0 hs os r1 (fun j l d e1 e2 => by
    obtain ⟨b1, b2⟩ := rd.back j l e1
    obtain ⟨d', v, c1, c2, c3, c4, c5⟩ := co.at' j b1
    rw [e2] at c1
    cases c1
    rw [Nat.zero_add]
    exact ⟨v, b2 v c2, c3.anyB c5, c4, co.rg.nd j, fun a m => by
      obtain ⟨g1, g2, g3⟩ := co.rg.fr j a m
      refine ⟨g1, ?_, g3⟩
      cases z : Φ a with
      | none => rfl
      | some u => exact absurd g2 (r3 a u z)⟩) (fun j _ a m i q => r2 i a q (co.rg.fr j a m).2.1) co.rg.dj
  exact ⟨S', r', fun i a m => (q i a m).imp (fun ⟨j, z⟩ => r2 j a z) fun ⟨j, _, z⟩ => ⟨j, z⟩⟩
theorem tok_out {G' H' : Hp} {Sa' : Nat → List Addr} {T : List Addr} {S' : Pi → List Addr} (rd : Rdy K G B Φ H As S σ ρ ms Sa vs es hs) (t1 : T.Nodup) (t2 : ∀ a ∈ T, (∀ j, a ∉ Sa' j) ∧ G' a = none ∧ less G (fun a => ∃ j, a ∈ Sa j) H a = none ∧ ∃ o, H' a = some o ∧ HO.free o) (hS : ∀ i a, a ∈ S' i → less G (fun a => ∃ j, a ∈ Sa j) H a ≠ none ∨ ∃ j, a ∈ Sa' j) : TOk T S' G' Φ H' :=
  ⟨t1, fun a m => by
    obtain ⟨h1, h2, h3, h4⟩ := t2 a m
    refine ⟨fun i q => (hS i a q).elim (fun z => z h3) fun ⟨j, z⟩ => h1 j z, h2, ?_, h4⟩
    cases z : Φ a with
    | none => rfl
    | some u =>
      have := less_at (rd.rep.ph a u z) (rd.rep.dis a u z) (T := fun a => ∃ j, a ∈ Sa j) fun ⟨j, y⟩ => by
        have := ((rd.tok j).2 a y).2.2.1
        rw [z] at this; cases this
      rw [h3] at this; cases this⟩
theorem Rdy.cin (rd : Rdy K G B Φ H As S σ ρ ms Sa vs es hs) : CIn K G (less G (fun a => ∃ j, a ∈ Sa j) H) H ms Sa vs es :=
  ⟨rd.rep.gh, fun a o z => (less_of z).1, fun a o z => (less_of z).2.1, rd.vl, rd.dl, rd.at', fun j => (rd.tok j).1, rd.dj, fun j a m => ⟨((rd.tok j).2 a m).2.1, by
    cases z : less G (fun a => ∃ j, a ∈ Sa j) H a with
    | none => rfl
    | some u => exact absurd ⟨j, m⟩ (less_of z).2.2, ((rd.tok j).2 a m).2.2.2⟩⟩
/-- the call itself -/
theorem rdy_call {F : Fn} {R : VK} (rd : Rdy K G B Φ H As S σ ρ ms Sa vs es hs) (q : (afterG (F es) hs ρ).P (GK K G B Φ As σ R) (GX K W G B Φ As σ)) : liftF K ms F vs H R (WE W σ) := by
  refine ⟨G, _, Sa, es, rd.cin, ?_⟩
  unfold afterG at q
  cases hF : F es with
  | no => rw [hF] at q; exact q.elim
  | rt d os =>
    rw [hF] at q
    intro G' H' Sa' v T L co hd n nb t1 t2
    obtain ⟨S', r', hS⟩ := rdy_back rd L co
    exact q G' H' S' v T L.g r' (hd.anyB nb) n (tok_out rd t1 t2 hS)
  | ex x os =>
    rw [hF] at q
    intro G' H' Sa' cls dx L co er pl
    obtain ⟨S', r', hS⟩ := rdy_back rd L co
    exact q G' H' S' cls dx L.g r' (exn_plain er pl)
end
/-- arguments that are read and taken -/
abbrev FAr := Plc → Out (Exn × Plc) (List D × List (Option Lc) × Plc)
def upAr (K : PySem.W.Frag) (W : WX) (ms : List Md) (f : FAr) : TA := fun σ H R => ∃ (G B Φ : Hp) (As : List V) (S : Pi → List Addr) (ρ : Plc), VRep K G B Φ H As S σ ρ ∧ (f ρ).P (fun x => ∀ G' H' S' Sa vs, Same G G' → Rdy K G' B Φ H' As S' σ x.2.2 ms Sa vs x.1 x.2.1 → R vs H') (GX K W G B Φ As σ)
def gCall (F : Fn) (f : FAr) : FG := fun ρ => (f ρ).bind fun x => afterG (F x.1) x.2.1 x.2.2
theorem gcall_up {K : PySem.W.Frag} {W : WX} {ms : List Md} {f : FAr} {F : Fn} {σ : L2.St} {H : Hp} {R : VK} (h : upG K W (gCall F f) σ H R) : upAr K W ms f σ H fun vs H' => liftF K ms F vs H' R (WE W σ) := by
  obtain ⟨G, B, Φ, As, S, ρ, r, q⟩ := h
  exact ⟨G, B, Φ, As, S, ρ, r, Out.P_mono (Out.P_bind.mp q) (fun x q1 G' H' S' Sa vs s rd => rdy_call rd (Out.P_mono q1 (fun _ k => k.mono s) fun _ k => k.mono s)) fun _ z => z⟩
/-- a method's receiver and arguments -/
structure CM (X : Cx) (W : WX) (C : Addr) (m : Str) (o : Expr) (es : List Expr) (ms : List Md) (f : FAr) : Prop where
  ex : ∃ (te : TE) (ta : TA), PE X o te ∧ PA X es ta ∧ ∀ σ H R, upAr X.K W ms f σ H R → te σ H fun x H1 => ∃ a dx fs, x = .ref a ∧ H1 a = some (.ins C dx fs) ∧ fs.lookup m = none ∧ ta σ H1 fun vs H2 => R (x :: vs) H2
structure CM0 (X : Cx) (W : WX) (C : Addr) (m : Str) (o : Expr) (ms : List Md) (f : FAr) : Prop where
  ex : ∃ te : TE, PE X o te ∧ ∀ σ H R, upAr X.K W ms f σ H R → te σ H fun x H1 => ∃ a dx fs, x = .ref a ∧ H1 a = some (.ins C dx fs) ∧ fs.lookup m = none ∧ R [x] H1
abbrev CA (X : Cx) (W : WX) (es : List Expr) (ms : List Md) (f : FAr) : Prop := PA X es (upAr X.K W ms f)
section
variable {X : Cx} {W : WX} {pos p apos : Pos} {x m : Str} {e o : Expr} {es : List Expr} {k : Nat} {ms : List Md} {F : Fn} {f : FAr} {C : Addr}
theorem ge_call (F' : VFn X.prog X.w X.K X.mg X.base x k ms F) (hr : Room k X.A) (tk : Takes X W) (ha : CA X W (e :: es) ms f) (hg : Gl X x := by rfl) (hdb : (x == ("__debug__" : Str)) = false := by decide)
    (he : starEach (e :: es) X.env = (false, eval e X.env) :: starEach es X.env := by rfl) (hpl : (backTo pos (starEach es X.env)).any (·.1) = false := by rfl) : GE X W (.Call (.Name x p) (e :: es) [] pos) (gCall F f) := by
  obtain ⟨a, fd, ps, F', hm, hk, hb⟩ := F'.ex
  exact peI (pe_callS F' hr hg hm hk hb (fun σ => passAt tk σ) ha hdb he hpl) fun σ H R h => gcall_up h
theorem ge_meth {pl : Sem Bool} (c : Cls X.K C) (F' : VMt X.prog X.w X.K X.mg X.base C m k ms F) (hr : Room k X.A) (tk : Takes X W) (ha : CM X W C m o (e :: es) ms f)
    (hst : starEach (e :: es) X.env = (false, eval e X.env) :: starEach es X.env := by rfl) (hpl : (backTo pos (starEach es X.env)).any (·.1) = false := by rfl)
    (ht : eval (.Call (.Attribute o m apos) (e :: es) [] pos) X.env = (do
      let ov ← eval o X.env
      standAt apos.atName
      let (f, first) ← holding [ov] (getMethod ov m pl)
      callWith pos f first (backTo pos (starEach (e :: es) X.env)) (backToKw pos (keywordEach [] X.env))) := by rfl) : GE X W (.Call (.Attribute o m apos) (e :: es) [] pos) (gCall F f) := by
  obtain ⟨a, fd, ps, F', hm, hb⟩ := F'.ex
  obtain ⟨te, ta, ho, hx, imp⟩ := ha.ex
  exact peI (pe_methS ho c hm F' hr hb (fun σ => passAt tk σ) hx hst hpl ht) fun σ H R h => imp σ H _ (gcall_up h)
theorem ge_meth0 {pl : Sem Bool} (c : Cls X.K C) (F' : VMt X.prog X.w X.K X.mg X.base C m k ms F) (hr : Room k X.A) (tk : Takes X W) (ha : CM0 X W C m o ms f)
    (ht : eval (.Call (.Attribute o m apos) [] [] pos) X.env = (do
      let ov ← eval o X.env
      standAt apos.atName
      let (f, first) ← holding [ov] (getMethod ov m pl)
      callWith pos f first (backTo pos (starEach [] X.env)) (backToKw pos (keywordEach [] X.env))) := by rfl) : GE X W (.Call (.Attribute o m apos) [] [] pos) (gCall F f) := by
  obtain ⟨a, fd, ps, F', hm, hb⟩ := F'.ex
  obtain ⟨te, ho, imp⟩ := ha.ex
  exact peI (pe_meth0S ho c hm F' hr hb (fun σ => passAt tk σ) ht) fun σ H R h => imp σ H _ (gcall_up h)
theorem ge_call0 (F' : VFn X.prog X.w X.K X.mg X.base x k [] F) (hr : Room k X.A) (tk : Takes X W) (hg : Gl X x := by rfl) (hdb : (x == ("__debug__" : Str)) = false := by decide) : GE X W (.Call (.Name x p) [] [] pos) (gCall F fun ρ => .ok ([], [], ρ)) := by
  obtain ⟨f, fd, ps, F', hm, hk, hb⟩ := F'.ex
  refine peI (pe_call0S F' hr hg hm hk hb (fun σ => passAt tk σ) hdb) fun σ H R h => ?_
  obtain ⟨G, B, Φ, As, S, ρ, r, q⟩ := h
  exact rdy_call (Sa := fun _ => []) (es := []) (hs := []) ⟨r, fun _ => .nil, (fun _ _ _ _ m => by cases m), rfl, rfl, (fun j md v d a => by simp at a), (fun j l h => by simp at h)⟩ q
end
end VL

/-! VLt: the arguments of such calls. -/
namespace VL
open PySem PySem.Spec PyProof.Rows L2

/-- the places of some names are emptied -/
def takeH : List (Option Nat) → Plc → Option (List (Option (Lc × D)) × Plc)
  | [], ρ => some ([], ρ)
  | none :: is, ρ => (takeH is ρ).map fun x => (none :: x.1, x.2)
  | some i :: is, ρ => match ρ.lc i with
    | none => none
    | some l => match ρ.get l with
      | none => none
      | some d => (takeH is (ρ.rm l)).map fun x => (some (l, d) :: x.1, x.2)
structure Taken (K : PySem.W.Frag) (G B Φ H : Hp) (As : List V) (S : Pi → List Addr) (σ : L2.St) (is : List (Option Nat)) (hs : List (Option (Lc × D))) (ρ0 : Plc) (S' : Pi → List Addr) (Sa : Nat → List Addr) : Prop where
  rep : VRep K G B Φ H As S' σ ρ0
  sub : ∀ i a, a ∈ S' i → a ∈ S i
  len : hs.length = is.length
  non : ∀ j : Nat, is[j]? = some none → hs[j]? = some none
  som : ∀ (j i : Nat), is[j]? = some (some i) → ∃ l d v, hs[j]? = some (some (l, d)) ∧ σ[i]? = some (some v) ∧ l.At σ As v ∧ d.old ∧ Dat K G B H (Sa j) v d
  tok : ∀ j, TOk (Sa j) S' G Φ H
  dj : ∀ i j a, i ≠ j → a ∈ Sa i → a ∉ Sa j
  src : ∀ j a, a ∈ Sa j → ∃ i, a ∈ S i
  emp : ∀ j : Nat, (∀ i, is[j]? ≠ some (some i)) → Sa j = []
theorem TOk.sub {T : List Addr} {S S' : Pi → List Addr} {G Φ H : Hp} (t : TOk T S G Φ H) (h : ∀ i a, a ∈ S' i → a ∈ S i) : TOk T S' G Φ H := ⟨t.1, fun a m => ⟨fun i q => (t.2 a m).1 i (h i a q), (t.2 a m).2⟩⟩
theorem take_ok {K : PySem.W.Frag} {G B Φ H : Hp} {As : List V} {σ : L2.St} : ∀ {is : List (Option Nat)} {S : Pi → List Addr} {ρ ρ0 : Plc} {hs : List (Option (Lc × D))}, VRep K G B Φ H As S σ ρ → takeH is ρ = some (hs, ρ0) → ∃ S' Sa, Taken K G B Φ H As S σ is hs ρ0 S' Sa
  | [], S, ρ, ρ0, hs, r, h => by
    cases h
    exact ⟨S, fun _ => [], r, fun _ _ m => m, rfl, fun j e => by simp at e, fun j i e => by simp at e, fun _ => .nil, (fun _ _ _ _ m => by cases m), (fun _ _ m => by cases m), fun _ _ => rfl⟩
  | none :: is, S, ρ, ρ0, hs, r, h => by
    simp only [takeH, Option.map_eq_some_iff] at h
    obtain ⟨⟨hs', ρ1⟩, h1, h2⟩ := h
    cases h2
    obtain ⟨S', Sa, t⟩ := take_ok r h1
    refine ⟨S', fun j => match j with | 0 => [] | j + 1 => Sa j, t.rep, t.sub, by simp [t.len], fun j e => ?_, fun j i e => ?_, fun j => ?_, fun i j a hij m => ?_, fun j a m => ?_, fun j e => ?_⟩
    · cases j with
      | zero => rfl
      | succ j => simpa using t.non j (by simpa using e)
    · cases j with
      | zero => simp at e
      | succ j => simpa using t.som j i (by simpa using e)
    · cases j with
      | zero => exact .nil
      | succ j => exact t.tok j
    · cases i with
      | zero => cases m
      | succ i => cases j with
        | zero => simp
        | succ j => exact t.dj i j a (by simpa using hij) m
    · cases j with
      | zero => cases m
      | succ j => exact t.src j a m
    · cases j with
      | zero => rfl
      | succ j => exact t.emp j (fun i q => e i (by simpa using q))
  | some n :: is, S, ρ, ρ0, hs, r, h => by
    simp only [takeH] at h
    cases hl : ρ.lc n with
    | none => rw [hl] at h; cases h
    | some l =>
      rw [hl] at h
      simp only at h
      cases hg : ρ.get l with
      | none => rw [hg] at h; cases h
      | some d =>
        rw [hg] at h
        simp only [Option.map_eq_some_iff] at h
        obtain ⟨⟨hs', ρ1⟩, h1, h2⟩ := h
        cases h2
        obtain ⟨v, a1, a2, a3, a4, a5⟩ := r.takeL hg
        obtain ⟨v', b1, b2⟩ := r.lc_at hl
        have := Lc.at_eq a1 b2
        subst this
        obtain ⟨S', Sa, t⟩ := take_ok a4 h1
        have sub0 : ∀ i a, a ∈ setS S l.pi [] i → a ∈ S i ∧ a ∉ S l.pi := fun i a m => by
          by_cases hi : i = l.pi
          · subst hi; rw [setS_same] at m; cases m
          · rw [setS_ne hi] at m
            exact ⟨m, r.dj _ _ a hi m⟩
        refine ⟨S', fun j => match j with | 0 => S l.pi | j + 1 => Sa j, t.rep, fun i a m => (sub0 i a (t.sub i a m)).1, by simp [t.len], fun j e => ?_, fun j i e => ?_, fun j => ?_, fun i j a hij m => ?_, fun j a m => ?_, fun j e => ?_⟩
        · cases j with
          | zero => simp at e
          | succ j => simpa using t.non j (by simpa using e)
        · cases j with
          | zero =>
            simp at e
            subst e
            exact ⟨l, d, v, rfl, b1, a1, a2, a3⟩
          | succ j => simpa using t.som j i (by simpa using e)
        · cases j with
          | zero => exact a5.sub t.sub
          | succ j => exact t.tok j
        · cases i with
          | zero => cases j with
            | zero => exact absurd rfl hij
            | succ j =>
              intro q
              obtain ⟨i, z⟩ := t.src j a q
              exact (sub0 i a z).2 m
          | succ i => cases j with
            | zero =>
              intro q
              obtain ⟨k, z⟩ := t.src i a m
              exact (sub0 k a z).2 q
            | succ j => exact t.dj i j a (by simpa using hij) m
        · cases j with
          | zero => exact ⟨_, m⟩
          | succ j =>
            obtain ⟨i, z⟩ := t.src j a m
            exact ⟨i, (sub0 i a z).1⟩
        · cases j with
          | zero => exact absurd rfl (e n)
          | succ j => exact t.emp j (fun i q => e i (by simpa using q))

/-! ### quiet arguments and names that are changed -/
inductive Ag where
  | q (f : FQ) | s (f : FQ) | k (f : FQ) | m (i : Nat)
def Ag.md : Ag → Md
  | .q _ => .r
  | .s _ => .r
  | .k _ => .k
  | .m _ => .m
def Ag.sl : Ag → Option Nat
  | .m i => some i
  | _ => none
/-- lent ones are read where the changed ones are out; settled ones are read before -/
def exP (o : Out Exn D) : Out Exn D := match o with
  | .ex x => if x.plain = true then .ex x else .no
  | o => o
def evalA : List Ag → List (Option (Lc × D)) → Plc → Plc → Out Exn (List D)
  | [], _, _, _ => .ok []
  | .q f :: as, _ :: hs, ρ, ρv => (exP (f ρv)).bind fun d => if d.free = true then (evalA as hs ρ ρv).bind fun ds => .ok (d.view :: ds) else .no
  | .s f :: as, _ :: hs, ρ, ρv => (f ρ).bind fun d => if d.st.kept = true then (evalA as hs ρ ρv).bind fun ds => .ok (d.st.view :: ds) else .no
  | .k f :: as, _ :: hs, ρ, ρv => (f ρ).bind fun d => if d.st.kept = true then (evalA as hs ρ ρv).bind fun ds => .ok (d.st :: ds) else .no
  | .m i :: as, some (l, d) :: hs, ρ, ρv => if d.noBor = true then (evalA as hs ρ ρv).bind fun ds => .ok (d :: ds) else .no
  | _, _, _, _ => .no
def faQ (as : List Ag) : FAr := fun ρ => match takeH (as.map Ag.sl) ρ with
  | none => .no
  | some (hs, ρ0) => match evalA as hs ρ ρ0.view with
    | .ok es => .ok (es, hs.map (Option.map Prod.fst), ρ0)
    | .ex x => .ex (x, ρ)
    | .no => .no
inductive ArgsR (K : PySem.W.Frag) (G' B Bv H H' : Hp) (σ : L2.St) : List Ag → List (Option (Lc × D)) → List V → List D → Prop
  | nil {hs} : ArgsR K G' B Bv H H' σ [] hs [] []
  | q {f as h hs v d vs ds} (hd : Dt K G' Bv H' v d) (fr : Fresh H G' v d) (hf : d.free = true) (t : ArgsR K G' B Bv H H' σ as hs vs ds) : ArgsR K G' B Bv H H' σ (.q f :: as) (h :: hs) (v :: vs) (d.view :: ds)
  | s {f as h hs v d vs ds} (hd : Dt K G' B H' v d) (fr : Fresh H G' v d) (hk : d.st.kept = true) (t : ArgsR K G' B Bv H H' σ as hs vs ds) : ArgsR K G' B Bv H H' σ (.s f :: as) (h :: hs) (v :: vs) (d.st.view :: ds)
  | k {f as h hs v d vs ds} (hd : Dt K G' B H' v d) (fr : Fresh H G' v d) (hk : d.st.kept = true) (t : ArgsR K G' B Bv H H' σ as hs vs ds) : ArgsR K G' B Bv H H' σ (.k f :: as) (h :: hs) (v :: vs) (d.st :: ds)
  | m {i as l d hs v vs ds} (hv : σ[i]? = some (some v)) (nb : d.noBor = true) (t : ArgsR K G' B Bv H H' σ as hs vs ds) : ArgsR K G' B Bv H H' σ (.m i :: as) (some (l, d) :: hs) (v :: vs) (d :: ds)
theorem ArgsR.back {K : PySem.W.Frag} {G H G1 H1 G' B Bv H' : Hp} {σ : L2.St} (e : Ext G H G1 H1) : ∀ {as hs vs ds}, ArgsR K G' B Bv H1 H' σ as hs vs ds → ArgsR K G' B Bv H H' σ as hs vs ds
  | _, _, _, _, .nil => .nil
  | _, _, _, _, .q hd fr hf t => .q hd (fr.back e) hf (ArgsR.back e t)
  | _, _, _, _, .s hd fr hf t => .s hd (fr.back e) hf (ArgsR.back e t)
  | _, _, _, _, .k hd fr hf t => .k hd (fr.back e) hf (ArgsR.back e t)
  | _, _, _, _, .m hv nb t => .m hv nb (ArgsR.back e t)
def Al (σ : L2.St) : List Ag → List (Option (Lc × D)) → Prop
  | .m i :: as, some _ :: hs => (∃ v, σ[i]? = some (some v)) ∧ Al σ as hs
  | _ :: as, _ :: hs => Al σ as hs
  | _, _ => True
def upCQ (K : PySem.W.Frag) (W : WX) (as : List Ag) : TA := fun σ H R => ∃ (G B Bv : Hp) (As : List V) (ρ ρv : Plc) (hs : List (Option (Lc × D))), SOk K G B H As σ ρ ∧ SOk K G Bv H As σ ρv ∧ Al σ as hs ∧
  (evalA as hs ρ ρv).P (fun es => ∀ G' H' vs, Ext G H G' H' → ArgsR K G' B Bv H H' σ as hs vs es → R vs H') (EX K W G B H σ)
inductive Ags (X : Cx) (W : WX) : List Expr → List Ag → Prop
  | nil : Ags X W [] []
  | q {e : Expr} {es : List Expr} {f : FQ} {as : List Ag} (h : QE X W e f) (t : Ags X W es as) (hs : starEach (e :: es) X.env = (false, eval e X.env) :: starEach es X.env := by rfl) : Ags X W (e :: es) (.q f :: as)
  | s {e : Expr} {es : List Expr} {f : FQ} {as : List Ag} (h : QE X W e f) (t : Ags X W es as) (hs : starEach (e :: es) X.env = (false, eval e X.env) :: starEach es X.env := by rfl) : Ags X W (e :: es) (.s f :: as)
  | k {e : Expr} {es : List Expr} {f : FQ} {as : List Ag} (h : QE X W e f) (t : Ags X W es as) (hs : starEach (e :: es) X.env = (false, eval e X.env) :: starEach es X.env := by rfl) : Ags X W (e :: es) (.k f :: as)
  | m {x : Str} {pos : Pos} {es : List Expr} {as : List Ag} (i : Nat) (t : Ags X W es as) (hN : X.N[i]? = some x := by rfl) (hv : Vis X.env.scope x := by first | exact Or.inl rfl | exact Or.inr (Or.inl rfl) | exact Or.inr (Or.inr rfl)) (hd : (x == ("__debug__" : Str)) = false := by decide) (hcd : (x == ("__classdict__" : Str)) = false := by decide)
    (hs : starEach (.Name x pos :: es) X.env = (false, eval (.Name x pos) X.env) :: starEach es X.env := by rfl) : Ags X W (.Name x pos :: es) (.m i :: as)
theorem SOk.same {K : PySem.W.Frag} {G B H : Hp} {As : List V} {σ : L2.St} {ρ : Plc} (so : SOk K G B H As σ ρ) : Same G H := so.gh
theorem exP_P {o : Out Exn D} {P : D → Prop} {K : PySem.W.Frag} {W : WX} {G B B' H : Hp} {σ : L2.St} (h : (exP o).P P (EX K W G B H σ)) : o.P P (EX K W G B' H σ) := by
  cases o with
  | ok d => exact h
  | no => exact h
  | ex x =>
    simp only [exP] at h
    obtain ⟨hp, h⟩ := Out.P_ifn h
    exact fun G' H' cls dx e er => h G' H' cls dx e (exn_plain er hp)
section
variable {X : Cx} {W : WX} {e : Expr} {es : List Expr} {as : List Ag} {f : FQ} {x : Str} {i : Nat} {pos : Pos}
/-- the head, then the rest -/
theorem cq_step {K : PySem.W.Frag} {σ : L2.St} {H : Hp} {R : List V → Hp → Prop} {a : Ag} {as : List Ag} {G B Bv : Hp} {As : List V} {ρ ρv : Plc} {h : Option (Lc × D)} {hs : List (Option (Lc × D))} {v : V} {G1 H1 : Hp} {d0 : D}
    (so : SOk K G B H As σ ρ) (sv : SOk K G Bv H As σ ρv) (al : Al σ as hs) (e1 : Ext G H G1 H1)
    (q : ((evalA as hs ρ ρv).bind fun ds => Out.ok (d0 :: ds)).P (fun es => ∀ G' H' vs, Ext G H G' H' → ArgsR K G' B Bv H H' σ (a :: as) (h :: hs) vs es → R vs H') (EX K W G B H σ))
    (mk : ∀ G2 H2 vs ds, Ext G1 H1 G2 H2 → ArgsR K G2 B Bv H H2 σ as hs vs ds → ArgsR K G2 B Bv H H2 σ (a :: as) (h :: hs) (v :: vs) (d0 :: ds)) : upCQ K W as σ H1 fun vs H' => R (v :: vs) H' :=
  ⟨G1, B, Bv, As, ρ, ρv, hs, so.ext e1, sv.ext e1, al, Out.P_mono (Out.P_bind.mp q) (fun ds k G2 H2 vs e2 ar => k G2 H2 (v :: vs) (e1.trans e2) (mk G2 H2 vs ds e2 (ar.back e1))) fun _ z => EX.ext e1 z⟩
theorem cq_pe {σ : L2.St} {H : Hp} {R : List V → Hp → Prop} {a : Ag} {as : List Ag} (h : Ags X W (e :: es) (a :: as)) : ∃ te, PE X e te ∧ ∀ σ H R, upCQ X.K W (a :: as) σ H R → te σ H fun v H1 => upCQ X.K W as σ H1 fun vs H' => R (v :: vs) H' := by
  cases h with
  | q h t hs =>
    refine ⟨_, h, fun σ H R ⟨G, B, Bv, As, ρ, ρv, hs, so, sv, al, q⟩ => ?_⟩
    cases hs with
    | nil => exact q.elim
    | cons z hs =>
      refine ⟨G, Bv, As, ρv, sv, exP_P (Out.P_mono (Out.P_bind.mp q) (fun d q1 G1 H1 v e1 hd fr => ?_) fun _ z => z)⟩
      obtain ⟨hf, q1⟩ := Out.P_ifn q1
      exact cq_step so sv (by simpa [Al] using al) e1 q1 fun G2 H2 vs ds e2 ar => .q (Dt.ext e2 hd) (Fresh.on fr hd e2) hf ar
  | s h t hs =>
    refine ⟨_, h, fun σ H R ⟨G, B, Bv, As, ρ, ρv, hs, so, sv, al, q⟩ => ?_⟩
    cases hs with
    | nil => exact q.elim
    | cons z hs =>
      refine ⟨G, B, As, ρ, so, Out.P_mono (Out.P_bind.mp q) (fun d q1 G1 H1 v e1 hd fr => ?_) fun _ z => z⟩
      obtain ⟨hf, q1⟩ := Out.P_ifn q1
      exact cq_step so sv (by simpa [Al] using al) e1 q1 fun G2 H2 vs ds e2 ar => .s (Dt.ext e2 hd) (Fresh.on fr hd e2) hf ar
  | k h t hs =>
    refine ⟨_, h, fun σ H R ⟨G, B, Bv, As, ρ, ρv, hs, so, sv, al, q⟩ => ?_⟩
    cases hs with
    | nil => exact q.elim
    | cons z hs =>
      refine ⟨G, B, As, ρ, so, Out.P_mono (Out.P_bind.mp q) (fun d q1 G1 H1 v e1 hd fr => ?_) fun _ z => z⟩
      obtain ⟨hf, q1⟩ := Out.P_ifn q1
      exact cq_step so sv (by simpa [Al] using al) e1 q1 fun G2 H2 vs ds e2 ar => .k (Dt.ext e2 hd) (Fresh.on fr hd e2) hf ar
  | m i t hN hv hd hcd hs =>
    refine ⟨_, pe_var hN hv hd hcd, fun σ H R ⟨G, B, Bv, As, ρ, ρv, hs, so, sv, al, q⟩ => ?_⟩
    cases hs with
    | nil => exact q.elim
    | cons z hs =>
      cases z with
      | none => exact q.elim
      | some z =>
        obtain ⟨l, d⟩ := z
        obtain ⟨nb, q1⟩ := Out.P_ifn q
        obtain ⟨⟨v, hv⟩, al⟩ := al
        exact ⟨v, hv, cq_step so sv al (Ext.refl so.gh) q1 fun G2 H2 vs ds e2 ar => .m hv nb ar⟩
theorem cq_pa : ∀ {es : List Expr} {as : List Ag}, Ags X W es as → PA X es (upCQ X.K W as)
  | _, _, .nil => paI pa_nil fun σ H R ⟨G, B, Bv, As, ρ, ρv, hs, so, sv, al, q⟩ => q G H [] (Ext.refl so.gh) .nil
  | _, _, .q h t hs => by
    obtain ⟨te, h1, h2⟩ := cq_pe (σ := []) (H := fun _ => none) (R := fun _ _ => True) (.q h t hs)
    exact paI (pa_cons h1 (cq_pa t) hs) h2
  | _, _, .s h t hs => by
    obtain ⟨te, h1, h2⟩ := cq_pe (σ := []) (H := fun _ => none) (R := fun _ _ => True) (.s h t hs)
    exact paI (pa_cons h1 (cq_pa t) hs) h2
  | _, _, .k h t hs => by
    obtain ⟨te, h1, h2⟩ := cq_pe (σ := []) (H := fun _ => none) (R := fun _ _ => True) (.k h t hs)
    exact paI (pa_cons h1 (cq_pa t) hs) h2
  | _, _, .m i t hN hv hd hcd hs => by
    obtain ⟨te, h1, h2⟩ := cq_pe (σ := []) (H := fun _ => none) (R := fun _ _ => True) (.m i t hN hv hd hcd hs)
    exact paI (pa_cons h1 (cq_pa t) hs) h2
end
theorem free_S {K : PySem.W.Frag} {G B H H0 : Hp} {S : List Addr} {v : V} {d : D} (hd : Dat K G B H S v d) (fr : Fresh H0 G v d) (hf : d.free = true) : ∀ a ∈ S, H0 a = none := fun a m => by
  by_cases ho : d.old
  · rw [free_id ho] at hf
    have := hd.noS hf
    subst this
    cases m
  · have hr : d.root = some .new := by simpa using ho
    obtain ⟨p, rfl, h1, h2⟩ := fr hr
    have key : ∀ {U : List Addr}, U = [] → a ∈ Fl.ad .new p ++ U → H0 a = none := fun {U} e q => by
      subst e
      have : a = p := by simpa [Fl.ad] using q
      subst this; exact h1
    cases d with
    | lst f xs => cases hr; cases hd with | lst n hs => exact key (Dats.noS hs (by simpa only [D.free] using hf)) m
    | dic f xs => cases hr; cases hd with | dic n hs => exact key (DatM.noS hs (by simpa only [D.free] using hf)) m
    | dit f xs => cases hr; cases hd with | dit n hs => exact key (DatM.noS hs (by simpa only [D.free] using hf)) m
    | obj f C xs => cases hr; cases hd with | obj n hs => exact key (DatM.noS hs (by simpa only [D.free] using hf)) m
    | _ => cases hr
theorem al_of {K : PySem.W.Frag} {G B Φ H : Hp} {As : List V} {S S' : Pi → List Addr} {σ : L2.St} {ρ0 : Plc} {Sa : Nat → List Addr} : ∀ (n : Nat) (as : List Ag) (hs : List (Option (Lc × D))), (∀ (j i : Nat), (as.map Ag.sl)[j]? = some (some i) → ∃ v, σ[i]? = some (some v)) → Al σ as hs
  | n, [], hs, _ => by cases hs <;> trivial
  | n, a :: as, [], _ => by cases a <;> trivial
  | n, a :: as, h :: hs, k => by
    have ih := al_of (K := K) (G := G) (B := B) (Φ := Φ) (H := H) (As := As) (S := S) (S' := S') (ρ0 := ρ0) (Sa := Sa) (n + 1) as hs fun j i e => k (j + 1) i (by simpa using e)
    cases a with
    | m i => cases h with
      | none => exact ih
      | some z => exact ⟨k 0 i rfl, ih⟩
    | _ => cases h <;> exact ih
/-- read and taken -/
theorem args_rdy {K : PySem.W.Frag} {G B Φ H G' H' : Hp} {As : List V} {S S' : Pi → List Addr} {σ : L2.St} {ρ0 : Plc} {Sa : Nat → List Addr} {as : List Ag} {hs : List (Option (Lc × D))} {vs : List V} {es : List D} (t : Taken K G B Φ H As S σ (as.map Ag.sl) hs ρ0 S' Sa) (e : Ext G H G' H')
    (ar : ArgsR K G' B (less G (fun a => ∃ j, a ∈ Sa j) H) H H' σ as hs vs es) : Rdy K (grab H G' H') B Φ H' As S' σ ρ0 (as.map Ag.md) Sa vs es (hs.map (Option.map Prod.fst)) := by
  obtain ⟨e2, s2⟩ := grab_ext e
  have tT : ∀ a, (∃ j, a ∈ Sa j) → G a = none ∧ ∃ o, H a = some o := fun a ⟨j, m⟩ => ⟨((t.tok j).2 a m).2.1, let ⟨o, h, _⟩ := ((t.tok j).2 a m).2.2.2; ⟨o, h⟩⟩
  have hG : ∀ a o, G' a = some o → ¬ ∃ j, a ∈ Sa j := fun a o z y => by
    obtain ⟨g1, u, g2⟩ := tT a y
    rcases e.new a o z with w | w
    · rw [g1] at w; cases w
    · rw [g2] at w; cases w
  have hG2 : ∀ a o, grab H G' H' a = some o → ¬ ∃ j, a ∈ Sa j := fun a o z y => by
    obtain ⟨g1, u, g2⟩ := tT a y
    rcases e2.new a o z with w | w
    · rw [g1] at w; cases w
    · rw [g2] at w; cases w
  have key : ∀ {as' : List Ag} {hs' : List (Option (Lc × D))} {vs' : List V} {es' : List D} (n : Nat), (∀ j, as'[j]? = as[n + j]?) → (∀ j, hs'[j]? = hs[n + j]?) → ArgsR K G' B (less G (fun a => ∃ j, a ∈ Sa j) H) H H' σ as' hs' vs' es' → vs'.length = as'.length ∧ es'.length = as'.length ∧
      ∀ (j : Nat) (a : Ag) (v : V) (d : D), as'[j]? = some a → vs'[j]? = some v → es'[j]? = some d → (Dat K (grab H G' H') (less (grab H G' H') (fun a => ∃ j, a ∈ Sa j) H') H' (Sa (n + j)) v d ∧ MOk a.md (Sa (n + j)) d) ∧ ∀ i, a = .m i → σ[i]? = some (some v) := by
    intro as'
    induction as' with
    | nil => intro hs' vs' es' n ha hh ar; cases ar; exact ⟨rfl, rfl, fun j a v d z => by simp at z⟩
    | cons a as' ih =>
      intro hs' vs' es' n ha hh ar
      have em : (∀ i, a.sl ≠ some i) → Sa n = [] := fun z => t.emp n fun i q => by
        have := ha 0
        simp at this
        rw [List.getElem?_map, ← this] at q
        simp at q
        exact z i q
      have fin : ∀ {h : Option (Lc × D)} {hs'' : List (Option (Lc × D))} {v : V} {vs'' : List V} {d : D} {ds : List D}, hs' = h :: hs'' → ArgsR K G' B (less G (fun a => ∃ j, a ∈ Sa j) H) H H' σ as' hs'' vs'' ds → ((Dat K (grab H G' H') (less (grab H G' H') (fun a => ∃ j, a ∈ Sa j) H') H' (Sa n) v d ∧ MOk a.md (Sa n) d) ∧ ∀ i, a = .m i → σ[i]? = some (some v)) →
          (v :: vs'').length = (a :: as').length ∧ (d :: ds).length = (a :: as').length ∧ ∀ (j : Nat) (a' : Ag) (v' : V) (d' : D), (a :: as')[j]? = some a' → (v :: vs'')[j]? = some v' → (d :: ds)[j]? = some d' → (Dat K (grab H G' H') (less (grab H G' H') (fun a => ∃ j, a ∈ Sa j) H') H' (Sa (n + j)) v' d' ∧ MOk a'.md (Sa (n + j)) d') ∧ ∀ i, a' = .m i → σ[i]? = some (some v') := fun {h hs'' v vs'' d ds} eh tl hd => by
        subst eh
        obtain ⟨i1, i2, i3⟩ := ih (n + 1) (fun j => by have := ha (j + 1); simp at this; rw [this]; congr 1; omega) (fun j => by have := hh (j + 1); simp at this; rw [this]; congr 1; omega) tl
        refine ⟨by simp [i1], by simp [i2], fun j a' v' d' h1 h2 h3 => ?_⟩
        cases j with
        | zero => simp at h1 h2 h3; subst h1 h2 h3; exact hd
        | succ j =>
          have := i3 j a' v' d' (by simpa using h1) (by simpa using h2) (by simpa using h3)
          rwa [show n + 1 + j = n + (j + 1) by omega] at this
      cases ar with
      | q hd fr hf tl =>
        refine fin rfl tl ⟨?_, fun i z => by cases z⟩
        rw [em (fun i z => by cases z)]
        obtain ⟨U, hd⟩ := hd
        refine ⟨dat_view s2 e2.gh (fun a o z => e.h a o (less_of z).1) (fun a m y => ?_) (fun a o z => (less_of z).2.2) hG hd, rfl, view_lent _⟩
        obtain ⟨_, u, g2⟩ := tT a y
        rw [free_S hd fr hf a m] at g2; cases g2
      | s hd fr hk tl =>
        refine fin rfl tl ⟨?_, fun i z => by cases z⟩
        rw [em (fun i z => by cases z)]
        obtain ⟨U, hS⟩ := st_dt e hd fr
        have := hS.noS (kept_noOwn hk)
        subst this
        have hS2 : Dat K (grab H G' H') (less (grab H G' H') (fun a => ∃ j, a ∈ Sa j) H') H' [] _ _ := hS.anyB (kept_noBor hk)
        exact ⟨dat_view (fun _ _ q => q) e2.gh (fun a o z => (less_of z).1) (fun a m => by cases m) (fun a o z => (less_of z).2.2) hG2 hS2, rfl, view_lent _⟩
      | k hd fr hk tl =>
        refine fin rfl tl ⟨?_, fun i z => by cases z⟩
        rw [em (fun i z => by cases z)]
        obtain ⟨U, hS⟩ := st_dt e hd fr
        have := hS.noS (kept_noOwn hk)
        subst this
        exact ⟨hS.anyB (kept_noBor hk), rfl, hk⟩
      | @m i _ l d _ v _ _ hv nb tl =>
        refine fin rfl tl ⟨?_, fun j z => by cases z; exact hv⟩
        have h1 := ha 0
        have h2 := hh 0
        simp at h1 h2
        obtain ⟨l', d', v', a1, a2, a3, a4, a5⟩ := t.som n i (by rw [List.getElem?_map, ← h1]; rfl)
        rw [← h2] at a1
        cases a1
        rw [hv] at a2
        cases a2
        exact ⟨(a5.mono e2.g (fun _ _ q => q) (On.of e2.h)).anyB nb, a4, nb⟩
  obtain ⟨k1, k2, k3⟩ := key 0 (fun j => by rw [Nat.zero_add]) (fun j => by rw [Nat.zero_add]) ar
  refine ⟨t.rep.ext e2, fun j => (t.tok j).ext e2 fun _ _ m => m, t.dj, by simp [k1], by simp [k2], fun j md v d h1 h2 h3 => ?_, fun j l h => ?_⟩
  · rw [List.getElem?_map] at h1
    cases ha : as[j]? with
    | none => rw [ha] at h1; cases h1
    | some a =>
      rw [ha] at h1
      cases h1
      have := (k3 j a v d ha h2 h3).1
      rwa [Nat.zero_add] at this
  · rw [List.getElem?_map] at h
    cases hh : hs[j]? with
    | none => rw [hh] at h; cases h
    | some z =>
      rw [hh] at h
      cases z with
      | none => cases h
      | some z =>
        obtain ⟨l', d⟩ := z
        cases h
        have hl : j < as.length := by
          have := (List.getElem?_eq_some_iff.mp hh).1
          rw [t.len] at this
          simpa using this
        have ha : as[j]? = some as[j] := by simp [hl]
        cases hc : as[j] with
        | m i =>
          rw [hc] at ha
          obtain ⟨l2, d2, v2, a1, a2, a3, a4, a5⟩ := t.som j i (by rw [List.getElem?_map, ha]; rfl)
          rw [hh] at a1
          cases a1
          refine ⟨by rw [List.getElem?_map, ha]; rfl, fun v hv => ?_⟩
          have he : es[j]? = some (es[j]'(by rw [k2]; exact hl)) := by simp [k2, hl]
          have := (k3 j _ v _ ha hv he).2 i rfl
          rw [a2] at this
          cases this
          exact a3
        | _ =>
          rw [hc] at ha
          have := t.non j (by rw [List.getElem?_map, ha]; rfl)
          rw [hh] at this; cases this
section
variable {X : Cx} {W : WX} {e o : Expr} {es : List Expr} {as : List Ag} {a : Ag} {C : Addr} {m : Str}
theorem faQ_up {K : PySem.W.Frag} {σ : L2.St} {H : Hp} {R : List V → Hp → Prop} (h : upAr K W (as.map Ag.md) (faQ as) σ H R) : upCQ K W as σ H R := by
  obtain ⟨G, B, Φ, As, S, ρ, r, q⟩ := h
  unfold faQ at q
  cases ht : takeH (as.map Ag.sl) ρ with
  | none => rw [ht] at q; exact q.elim
  | some x =>
    obtain ⟨hs, ρ0⟩ := x
    rw [ht] at q
    simp only at q
    obtain ⟨S', Sa, t⟩ := take_ok r ht
    have sv := t.rep.lend (T := fun a => ∃ j, a ∈ Sa j) (fun i a m ⟨j, z⟩ => ((t.tok j).2 a z).1 i m) (fun a ⟨j, z⟩ => ⟨((t.tok j).2 a z).2.2.1, ((t.tok j).2 a z).2.1⟩)
    refine ⟨G, B, _, As, ρ, ρ0.view, hs, r.so, sv, al_of (K := K) (G := G) (B := B) (Φ := Φ) (H := H) (As := As) (S := S) (S' := S') (ρ0 := ρ0) (Sa := Sa) 0 as hs (fun j i z => ?_), ?_⟩
    · obtain ⟨l, d, v, _, h2, _⟩ := t.som j i z
      exact ⟨v, h2⟩
    · cases he : evalA as hs ρ ρ0.view with
      | no => rw [he] at q; exact q.elim
      | ex x => rw [he] at q; exact EX.of r q
      | ok ds =>
        rw [he] at q
        exact fun G' H' vs e ar => q _ H' S' Sa vs (grab_ext e).1.g (args_rdy t e ar)
theorem ca_q (h : Ags X W es as) : CA X W es (as.map Ag.md) (faQ as) := paI (cq_pa h) fun σ H R q => faQ_up q
/-- the receiver is of the class -/
def hdOk (C : Addr) (m : Str) : Ag → Plc → Plc → Bool
  | .q f, _, ρv => match exP (f ρv) with
    | .ok d => isObj C m d
    | .ex _ => true
    | .no => false
  | .m i, ρ, _ => match look ρ i with
    | some d => isObj C m d
    | none => false
  | _, _, _ => false
def fmQ (C : Addr) (m : Str) (as : List Ag) : FAr := fun ρ => match as, takeH (as.map Ag.sl) ρ with
  | a :: _, some (_, ρ0) => if hdOk C m a ρ ρ0.view = true then faQ as ρ else .no
  | _, _ => .no
theorem Out.P_and {ε α : Type} {o : Out ε α} {P Q : α → Prop} {E : ε → Prop} (h : o.P P E) (q : ∀ a, o = .ok a → Q a) : o.P (fun a => P a ∧ Q a) E := by
  cases o with
  | ok a => exact ⟨h, q a rfl⟩
  | ex e => exact h
  | no => exact h
def upCQH (K : PySem.W.Frag) (W : WX) (C : Addr) (m : Str) (a : Ag) (as : List Ag) : TA := fun σ H R => ∃ (G B Bv : Hp) (As : List V) (ρ ρv : Plc) (hs : List (Option (Lc × D))), SOk K G B H As σ ρ ∧ SOk K G Bv H As σ ρv ∧ Al σ (a :: as) hs ∧ hdOk C m a ρ ρv = true ∧
  (evalA (a :: as) hs ρ ρv).P (fun es => ∀ G' H' vs, Ext G H G' H' → ArgsR K G' B Bv H H' σ (a :: as) hs vs es → R vs H') (EX K W G B H σ)
theorem cq_head (h : Ags X W (o :: es) (a :: as)) : ∃ te, PE X o te ∧ ∀ σ H R, upCQH X.K W C m a as σ H R → ∀ k : V → Hp → Prop, (∀ x H1, (upCQ X.K W as σ H1 fun vs H2 => R (x :: vs) H2) → k x H1) → te σ H fun x H1 => ∃ p dx fs, x = .ref p ∧ H1 p = some (.ins C dx fs) ∧ fs.lookup m = none ∧ k x H1 := by
  cases h with
  | @q _ _ f _ h t hs =>
    refine ⟨_, h, fun σ H R ⟨G, B, Bv, As, ρ, ρv, hs, so, sv, al, hd0, q⟩ kk hkk => ?_⟩
    cases hs with
    | nil => exact q.elim
    | cons z hs =>
      have q2 := exP_P (B' := Bv) (Out.P_and (Out.P_bind.mp q) (Q := fun d => isObj C m d = true) fun d e => by simpa [hdOk, e] using hd0)
      refine ⟨G, Bv, As, ρv, sv, Out.P_mono q2 (fun d ⟨q1, ob⟩ G1 H1 v e1 hd fr => ?_) fun _ z => z⟩
      obtain ⟨hf, q1⟩ := Out.P_ifn q1
      obtain ⟨p, dx, fs, rfl, h1, h2⟩ := is_obj e1.gh (sv.ext e1).bh hd ob
      exact ⟨p, dx, fs, rfl, h1, h2, hkk _ _ (cq_step so sv (by simpa [Al] using al) e1 q1 fun G2 H2 vs ds e2 ar => .q (Dt.ext e2 hd) (Fresh.on fr hd e2) hf ar)⟩
  | s h t hs => exact ⟨_, h, fun σ H R ⟨_, _, _, _, _, _, _, _, _, _, z, _⟩ _ _ => by cases z⟩
  | k h t hs => exact ⟨_, h, fun σ H R ⟨_, _, _, _, _, _, _, _, _, _, z, _⟩ _ _ => by cases z⟩
  | m i t hN hv hd hcd hs =>
    refine ⟨_, pe_var hN hv hd hcd, fun σ H R ⟨G, B, Bv, As, ρ, ρv, hs, so, sv, al, hd0, q⟩ kk hkk => ?_⟩
    cases hs with
    | nil => exact q.elim
    | cons z hs =>
      cases z with
      | none => exact q.elim
      | some z =>
        obtain ⟨l, d⟩ := z
        obtain ⟨nb, q1⟩ := Out.P_ifn q
        obtain ⟨⟨v, hv⟩, al⟩ := al
        simp only [hdOk] at hd0
        cases hl : look ρ i with
        | none => rw [hl] at hd0; cases hd0
        | some d' =>
          rw [hl] at hd0
          obtain ⟨_, v', h3, h4⟩ := so.look hl
          rw [hv] at h3
          cases h3
          obtain ⟨p, dx, fs, rfl, h1, h2⟩ := is_obj so.gh so.bh h4 hd0
          exact ⟨_, hv, p, dx, fs, rfl, h1, h2, hkk _ _ (cq_step so sv al (Ext.refl so.gh) q1 fun G2 H2 vs ds e2 ar => .m hv nb ar)⟩
theorem fmQ_up {K : PySem.W.Frag} {σ : L2.St} {H : Hp} {R : List V → Hp → Prop} (h : upAr K W ((a :: as).map Ag.md) (fmQ C m (a :: as)) σ H R) : upCQH K W C m a as σ H R := by
  obtain ⟨G, B, Φ, As, S, ρ, r, q⟩ := h
  unfold fmQ at q
  cases ht : takeH ((a :: as).map Ag.sl) ρ with
  | none => rw [ht] at q; exact q.elim
  | some x =>
    obtain ⟨hs, ρ0⟩ := x
    rw [ht] at q
    obtain ⟨ho, q⟩ := Out.P_ifn q
    unfold faQ at q
    rw [ht] at q
    simp only at q
    obtain ⟨S', Sa, t⟩ := take_ok r ht
    have sv := t.rep.lend (T := fun a => ∃ j, a ∈ Sa j) (fun i a m ⟨j, z⟩ => ((t.tok j).2 a z).1 i m) (fun a ⟨j, z⟩ => ⟨((t.tok j).2 a z).2.2.1, ((t.tok j).2 a z).2.1⟩)
    refine ⟨G, B, _, As, ρ, ρ0.view, hs, r.so, sv, al_of (K := K) (G := G) (B := B) (Φ := Φ) (H := H) (As := As) (S := S) (S' := S') (ρ0 := ρ0) (Sa := Sa) 0 _ hs (fun j i z => ?_), ho, ?_⟩
    · obtain ⟨l, d, v, _, h2, _⟩ := t.som j i z
      exact ⟨v, h2⟩
    · cases he : evalA (a :: as) hs ρ ρ0.view with
      | no => rw [he] at q; exact q.elim
      | ex x => rw [he] at q; exact EX.of r q
      | ok ds =>
        rw [he] at q
        exact fun G' H' vs e ar => q _ H' S' Sa vs (grab_ext e).1.g (args_rdy t e ar)
theorem Ags.tail (h : Ags X W (o :: es) (a :: as)) : Ags X W es as := by cases h <;> assumption
theorem cm_q (h : Ags X W (o :: es) (a :: as)) : CM X W C m o es ((a :: as).map Ag.md) (fmQ C m (a :: as)) := by
  obtain ⟨te, h1, h2⟩ := cq_head (C := C) (m := m) h
  exact ⟨te, _, h1, cq_pa h.tail, fun σ H R q => h2 σ H R (fmQ_up q) _ fun _ _ z => z⟩
theorem cm0_q (h : Ags X W [o] [a]) : CM0 X W C m o [a.md] (fmQ C m [a]) := by
  obtain ⟨te, h1, h2⟩ := cq_head (C := C) (m := m) h
  refine ⟨te, h1, fun σ H R q => h2 σ H R (fmQ_up q) _ fun x H1 z => ?_⟩
  obtain ⟨G, B, Bv, As, ρ, ρv, hs, so, sv, al, q⟩ := z
  exact q G H1 [] (Ext.refl so.gh) .nil
end
end VL

/-! VLu: arguments that change things themselves; instances made. -/
namespace VL
open PySem PySem.Spec PyProof.Rows L2

inductive Gg where
  | r (i : Nat) | m (i : Nat) | g (ga : FG) | k (ga : FG)
def Gg.md : Gg → Md
  | .r _ => .r
  | .g _ => .r
  | .k _ => .k
  | .m _ => .m
def Gg.sl : Gg → Option Nat
  | .m i => some i
  | _ => none
def evalG : List Gg → Plc → Out (Exn × Plc) (List (Option D) × Plc)
  | [], ρ => .ok ([], ρ)
  | .g ga :: as, ρ => (ga ρ).bind fun x => (evalG as x.2).bind fun y => .ok (some x.1.fz :: y.1, y.2)
  | .k ga :: as, ρ => (ga ρ).bind fun x => (evalG as x.2).bind fun y => .ok (some x.1.fz :: y.1, y.2)
  | .r i :: as, ρ => match ρ.lc i with
    | some _ => (evalG as ρ).bind fun y => .ok (none :: y.1, y.2)
    | none => .no
  | .m i :: as, ρ => match ρ.lc i with
    | some _ => (evalG as ρ).bind fun y => .ok (none :: y.1, y.2)
    | none => .no
def asmG : List Gg → List (Option D) → List (Option (Lc × D)) → Plc → Option (List D)
  | [], _, _, _ => some []
  | .r i :: as, _ :: ds, _ :: hs, ρ0 => match look ρ0 i with
    | some d => (asmG as ds hs ρ0).map (d.view :: ·)
    | none => none
  | .g _ :: as, some d :: ds, _ :: hs, ρ0 => (asmG as ds hs ρ0).map (d.view :: ·)
  | .k _ :: as, some d :: ds, _ :: hs, ρ0 => if d.kept = true then (asmG as ds hs ρ0).map (d :: ·) else none
  | .m _ :: as, _ :: ds, some (_, d) :: hs, ρ0 => if d.noBor = true then (asmG as ds hs ρ0).map (d :: ·) else none
  | _, _, _, _ => none
def faG (as : List Gg) : FAr := fun ρ => (evalG as ρ).bind fun y => match takeH (as.map Gg.sl) y.2 with
  | none => .no
  | some (hs, ρ0) => match asmG as y.1 hs ρ0 with
    | some es => .ok (es, hs.map (Option.map Prod.fst), ρ0)
    | none => .no
inductive ArgsG (K : PySem.W.Frag) (G B H : Hp) (σ : L2.St) : List Gg → List V → List (Option D) → Prop
  | nil : ArgsG K G B H σ [] [] []
  | r {i : Nat} {v : V} {as : List Gg} {vs : List V} {ds : List (Option D)} (hv : σ[i]? = some (some v)) (t : ArgsG K G B H σ as vs ds) : ArgsG K G B H σ (.r i :: as) (v :: vs) (none :: ds)
  | m {i : Nat} {v : V} {as : List Gg} {vs : List V} {ds : List (Option D)} (hv : σ[i]? = some (some v)) (t : ArgsG K G B H σ as vs ds) : ArgsG K G B H σ (.m i :: as) (v :: vs) (none :: ds)
  | g {ga : FG} {v : V} {d : D} {as : List Gg} {vs : List V} {ds : List (Option D)} (hd : Dat K G B H [] v d) (t : ArgsG K G B H σ as vs ds) : ArgsG K G B H σ (.g ga :: as) (v :: vs) (some d :: ds)
  | k {ga : FG} {v : V} {d : D} {as : List Gg} {vs : List V} {ds : List (Option D)} (hd : Dat K G B H [] v d) (t : ArgsG K G B H σ as vs ds) : ArgsG K G B H σ (.k ga :: as) (v :: vs) (some d :: ds)
def upCG (K : PySem.W.Frag) (W : WX) (as : List Gg) : TA := fun σ H R => ∃ (G B Φ : Hp) (As : List V) (S : Pi → List Addr) (ρ : Plc), VRep K G B Φ H As S σ ρ ∧
  (evalG as ρ).P (fun y => ∀ G' H' S' vs, Same G G' → VRep K G' B Φ H' As S' σ y.2 → ArgsG K G' B H' σ as vs y.1 → R vs H') (GX K W G B Φ As σ)
inductive Ggs (X : Cx) (W : WX) : List Expr → List Gg → Prop
  | nil : Ggs X W [] []
  | g {e : Expr} {es : List Expr} {f : FG} {as : List Gg} (h : GE X W e f) (t : Ggs X W es as) (hs : starEach (e :: es) X.env = (false, eval e X.env) :: starEach es X.env := by rfl) : Ggs X W (e :: es) (.g f :: as)
  | k {e : Expr} {es : List Expr} {f : FG} {as : List Gg} (h : GE X W e f) (t : Ggs X W es as) (hs : starEach (e :: es) X.env = (false, eval e X.env) :: starEach es X.env := by rfl) : Ggs X W (e :: es) (.k f :: as)
  | m {x : Str} {pos : Pos} {es : List Expr} {as : List Gg} (i : Nat) (t : Ggs X W es as) (hN : X.N[i]? = some x := by rfl) (hv : Vis X.env.scope x := by first | exact Or.inl rfl | exact Or.inr (Or.inl rfl) | exact Or.inr (Or.inr rfl)) (hd : (x == ("__debug__" : Str)) = false := by decide) (hcd : (x == ("__classdict__" : Str)) = false := by decide)
    (hs : starEach (.Name x pos :: es) X.env = (false, eval (.Name x pos) X.env) :: starEach es X.env := by rfl) : Ggs X W (.Name x pos :: es) (.m i :: as)
  | r {x : Str} {pos : Pos} {es : List Expr} {as : List Gg} (i : Nat) (t : Ggs X W es as) (hN : X.N[i]? = some x := by rfl) (hv : Vis X.env.scope x := by first | exact Or.inl rfl | exact Or.inr (Or.inl rfl) | exact Or.inr (Or.inr rfl)) (hd : (x == ("__debug__" : Str)) = false := by decide) (hcd : (x == ("__classdict__" : Str)) = false := by decide)
    (hs : starEach (.Name x pos :: es) X.env = (false, eval (.Name x pos) X.env) :: starEach es X.env := by rfl) : Ggs X W (.Name x pos :: es) (.r i :: as)
/-- the receiver is of the class -/
def hdG (C : Addr) (m : Str) : Gg → Plc → Bool
  | .g f, ρ => match f ρ with
    | .ok d => isObj C m d.1
    | .ex _ => true
    | .no => false
  | .m i, ρ => match look ρ i with
    | some d => isObj C m d
    | none => false
  | .r i, ρ => match look ρ i with
    | some d => isObj C m d
    | none => false
  | _, _ => false
def fmG (C : Addr) (m : Str) (as : List Gg) : FAr := fun ρ => match as with
  | a :: _ => if hdG C m a ρ = true then faG as ρ else .no
  | _ => .no
theorem look_lc {ρ : Plc} {i : Nat} {d : D} (h : look ρ i = some d) : ∃ l, ρ.lc i = some l ∧ ρ.get l = some d := by
  cases e : ρ.lc i with
  | some l => exact ⟨l, rfl, by rw [← look_get e]; exact h⟩
  | none =>
    unfold Plc.lc at e
    unfold look at h
    cases z : ρ.s[i]? with
    | none => rw [z] at h; cases h
    | some x =>
      rw [z] at h e
      cases x with
      | no => cases h
      | val d => cases e
      | arg j => cases e
section
variable {X : Cx} {W : WX} {e o : Expr} {es : List Expr} {as : List Gg} {a : Gg} {C : Addr} {m : Str}
/-- the head's reading, whatever else is asked of it -/
theorem cg_pe (h : Ggs X W (e :: es) (a :: as)) : ∃ te : TE, PE X e te ∧ (∀ (σ : L2.St) (H : Hp) (R : List V → Hp → Prop), upCG X.K W (a :: as) σ H R → te σ H fun v H1 => upCG X.K W as σ H1 fun vs H' => R (v :: vs) H') ∧
    ∀ (σ : L2.St) (H : Hp) (R : List V → Hp → Prop) (k : V → Hp → Prop), (∃ (G B Φ : Hp) (As : List V) (S : Pi → List Addr) (ρ : Plc), VRep X.K G B Φ H As S σ ρ ∧ hdG C m a ρ = true ∧
      (evalG (a :: as) ρ).P (fun y => ∀ G' H' S' vs, Same G G' → VRep X.K G' B Φ H' As S' σ y.2 → ArgsG X.K G' B H' σ (a :: as) vs y.1 → R vs H') (GX X.K W G B Φ As σ)) →
      (∀ x H1, (upCG X.K W as σ H1 fun vs H2 => R (x :: vs) H2) → k x H1) → te σ H fun x H1 => ∃ p dx fs, x = .ref p ∧ H1 p = some (.ins C dx fs) ∧ fs.lookup m = none ∧ k x H1 := by
  have gstep : ∀ {σ : L2.St} {H1 : Hp} {R : List V → Hp → Prop} {G B Φ : Hp} {As : List V} {S1 : Pi → List Addr} {x : D × Plc} {G1 : Hp} {v : V} {T : List Addr} {a' : Gg}, Same G G1 → VRep X.K G1 B Φ H1 As S1 σ x.2 → Dat X.K G1 B H1 T v x.1 → TOk T S1 G1 Φ H1 →
      ((evalG as x.2).bind fun y => Out.ok (some x.1.fz :: y.1, y.2)).P (fun y => ∀ G' H' S' vs, Same G G' → VRep X.K G' B Φ H' As S' σ y.2 → ArgsG X.K G' B H' σ (a' :: as) vs y.1 → R vs H') (GX X.K W G B Φ As σ) →
      (∀ G' H' d vs ds, Dat X.K G' B H' [] v d → ArgsG X.K G' B H' σ as vs ds → ArgsG X.K G' B H' σ (a' :: as) (v :: vs) (some d :: ds)) → upCG X.K W as σ H1 fun vs H' => R (v :: vs) H' := fun {σ H1 R G B Φ As S1 x G1 v T a'} s1 r1 hx t1 q1 mk => by
    have sm : Same G1 (more G1 H1 T) := more_same fun a m => (t1.2 a m).2.1
    refine ⟨_, B, Φ, As, S1, x.2, r1.more t1, Out.P_mono (Out.P_bind.mp q1) (fun y q2 G2 H2 S2 vs s2 r2 ar => ?_) fun _ z => z.mono (s1.trans sm)⟩
    have hd : Dat X.K G2 B H2 [] v x.1.fz := (dat_fz (H' := H2) hx fun a m => (t1.2 a m).2.1).mono s2 (fun _ _ q => q) (fun a m => by cases m)
    exact q2 G2 H2 S2 (v :: vs) ((s1.trans sm).trans s2) r2 (mk _ _ _ _ _ hd ar)
  cases h with
  | @g _ _ f _ h t hs =>
    refine ⟨_, h, fun σ H R ⟨G, B, Φ, As, S, ρ, r, q⟩ => ?_, fun σ H R k ⟨G, B, Φ, As, S, ρ, r, ho, q⟩ kk => ?_⟩
    · exact ⟨G, B, Φ, As, S, ρ, r, Out.P_mono (Out.P_bind.mp q) (fun x q1 G1 H1 S1 v T s1 r1 hx n1 t1 => gstep s1 r1 hx t1 q1 fun _ _ _ _ _ hd ar => .g hd ar) fun _ z => z⟩
    · refine ⟨G, B, Φ, As, S, ρ, r, Out.P_mono (Out.P_and (Out.P_bind.mp q) (Q := fun d => isObj C m d.1 = true) fun d e => by simpa [hdG, e] using ho) (fun x ⟨q1, ob⟩ G1 H1 S1 v T s1 r1 hx n1 t1 => ?_) fun _ z => z⟩
      obtain ⟨p, dx, fs, rfl, h1, h2⟩ := is_obj r1.gh (bh_of r1) ⟨_, hx⟩ ob
      exact ⟨p, dx, fs, rfl, h1, h2, kk _ _ (gstep s1 r1 hx t1 q1 fun _ _ _ _ _ hd ar => .g hd ar)⟩
  | k h t hs =>
    refine ⟨_, h, fun σ H R ⟨G, B, Φ, As, S, ρ, r, q⟩ => ?_, fun σ H R k ⟨G, B, Φ, As, S, ρ, r, ho, q⟩ kk => by cases ho⟩
    exact ⟨G, B, Φ, As, S, ρ, r, Out.P_mono (Out.P_bind.mp q) (fun x q1 G1 H1 S1 v T s1 r1 hx n1 t1 => gstep s1 r1 hx t1 q1 fun _ _ _ _ _ hd ar => .k hd ar) fun _ z => z⟩
  | @m _ _ _ _ i t hN hv hd hcd hs =>
    have nm : ∀ {σ : L2.St} {H : Hp} {R : List V → Hp → Prop} {G B Φ : Hp} {As : List V} {S : Pi → List Addr} {ρ : Plc}, VRep X.K G B Φ H As S σ ρ → (evalG (.m i :: as) ρ).P (fun y => ∀ G' H' S' vs, Same G G' → VRep X.K G' B Φ H' As S' σ y.2 → ArgsG X.K G' B H' σ (.m i :: as) vs y.1 → R vs H') (GX X.K W G B Φ As σ) →
        ∃ v, σ[i]? = some (some v) ∧ upCG X.K W as σ H fun vs H' => R (v :: vs) H' := fun {σ H R G B Φ As S ρ} r q => by
      simp only [evalG] at q
      cases hl : ρ.lc i with
      | none => rw [hl] at q; exact q.elim
      | some l =>
        rw [hl] at q
        obtain ⟨v, h1, _⟩ := r.lc_at hl
        exact ⟨v, h1, G, B, Φ, As, S, ρ, r, Out.P_mono (Out.P_bind.mp q) (fun y q1 G' H' S' vs s r' ar => q1 G' H' S' (v :: vs) s r' (.m h1 ar)) fun _ z => z⟩
    refine ⟨_, pe_var hN hv hd hcd, fun σ H R ⟨G, B, Φ, As, S, ρ, r, q⟩ => nm r q, fun σ H R k ⟨G, B, Φ, As, S, ρ, r, ho, q⟩ kk => ?_⟩
    obtain ⟨v, h1, h2⟩ := nm r q
    simp only [hdG] at ho
    cases hl : look ρ i with
    | none => rw [hl] at ho; cases ho
    | some d' =>
      rw [hl] at ho
      obtain ⟨_, v', h3, h4⟩ := r.so.look hl
      rw [h1] at h3
      cases h3
      obtain ⟨p, dx, fs, rfl, h5, h6⟩ := is_obj r.gh (bh_of r) h4 ho
      exact ⟨_, h1, p, dx, fs, rfl, h5, h6, kk _ _ h2⟩
  | @r _ _ _ _ i t hN hv hd hcd hs =>
    have nm : ∀ {σ : L2.St} {H : Hp} {R : List V → Hp → Prop} {G B Φ : Hp} {As : List V} {S : Pi → List Addr} {ρ : Plc}, VRep X.K G B Φ H As S σ ρ → (evalG (.r i :: as) ρ).P (fun y => ∀ G' H' S' vs, Same G G' → VRep X.K G' B Φ H' As S' σ y.2 → ArgsG X.K G' B H' σ (.r i :: as) vs y.1 → R vs H') (GX X.K W G B Φ As σ) →
        ∃ v, σ[i]? = some (some v) ∧ upCG X.K W as σ H fun vs H' => R (v :: vs) H' := fun {σ H R G B Φ As S ρ} r q => by
      simp only [evalG] at q
      cases hl : ρ.lc i with
      | none => rw [hl] at q; exact q.elim
      | some l =>
        rw [hl] at q
        obtain ⟨v, h1, _⟩ := r.lc_at hl
        exact ⟨v, h1, G, B, Φ, As, S, ρ, r, Out.P_mono (Out.P_bind.mp q) (fun y q1 G' H' S' vs s r' ar => q1 G' H' S' (v :: vs) s r' (.r h1 ar)) fun _ z => z⟩
    refine ⟨_, pe_var hN hv hd hcd, fun σ H R ⟨G, B, Φ, As, S, ρ, r, q⟩ => nm r q, fun σ H R k ⟨G, B, Φ, As, S, ρ, r, ho, q⟩ kk => ?_⟩
    obtain ⟨v, h1, h2⟩ := nm r q
    simp only [hdG] at ho
    cases hl : look ρ i with
    | none => rw [hl] at ho; cases ho
    | some d' =>
      rw [hl] at ho
      obtain ⟨_, v', h3, h4⟩ := r.so.look hl
      rw [h1] at h3
      cases h3
      obtain ⟨p, dx, fs, rfl, h5, h6⟩ := is_obj r.gh (bh_of r) h4 ho
      exact ⟨_, h1, p, dx, fs, rfl, h5, h6, kk _ _ h2⟩
theorem Ggs.tail (h : Ggs X W (o :: es) (a :: as)) : Ggs X W es as := by cases h <;> assumption
theorem Ggs.star (h : Ggs X W (e :: es) (a :: as)) : starEach (e :: es) X.env = (false, eval e X.env) :: starEach es X.env := by cases h <;> assumption
theorem cg_pa : ∀ {es : List Expr} {as : List Gg}, Ggs X W es as → PA X es (upCG X.K W as)
  | [], [], _ => paI pa_nil fun σ H R ⟨G, B, Φ, As, S, ρ, r, q⟩ => q G H S [] (fun _ _ z => z) r .nil
  | [], _ :: _, h => by cases h
  | _ :: _, [], h => by cases h
  | e :: es, a :: as, h => by
    obtain ⟨te, h1, h2, _⟩ := cg_pe (C := 0) (m := "") h
    exact paI (pa_cons h1 (cg_pa h.tail) h.star) h2
theorem argsG_rdy {K : PySem.W.Frag} {G B Φ H : Hp} {As : List V} {S S' : Pi → List Addr} {σ : L2.St} {ρ ρ0 : Plc} {Sa : Nat → List Addr} {as : List Gg} {hs : List (Option (Lc × D))} {vs : List V} {ds : List (Option D)} {es : List D}
    (t : Taken K G B Φ H As S σ (as.map Gg.sl) hs ρ0 S' Sa) (ar : ArgsG K G B H σ as vs ds) (he : asmG as ds hs ρ0 = some es) : Rdy K G B Φ H As S' σ ρ0 (as.map Gg.md) Sa vs es (hs.map (Option.map Prod.fst)) := by
  have bh : Same B H := bh_of t.rep
  have hB : ∀ a o, B a = some o → ¬ ∃ j, a ∈ Sa j := fun a o z ⟨j, m⟩ => by
    have := ((t.tok j).2 a m).2.2.1
    rw [t.rep.bp a o z] at this; cases this
  have hG : ∀ a o, G a = some o → ¬ ∃ j, a ∈ Sa j := fun a o z ⟨j, m⟩ => by
    have := ((t.tok j).2 a m).2.1
    rw [z] at this; cases this
  have key : ∀ {as' : List Gg} {hs' : List (Option (Lc × D))} {vs' : List V} {ds' : List (Option D)} {es' : List D} (n : Nat), (∀ j, as'[j]? = as[n + j]?) → (∀ j, hs'[j]? = hs[n + j]?) → ArgsG K G B H σ as' vs' ds' → asmG as' ds' hs' ρ0 = some es' → vs'.length = as'.length ∧ es'.length = as'.length ∧
      ∀ (j : Nat) (a : Gg) (v : V) (d : D), as'[j]? = some a → vs'[j]? = some v → es'[j]? = some d → (Dat K G (less G (fun a => ∃ j, a ∈ Sa j) H) H (Sa (n + j)) v d ∧ MOk a.md (Sa (n + j)) d) ∧ ∀ i, a = .m i → σ[i]? = some (some v) := by
    intro as'
    induction as' with
    | nil => intro hs' vs' ds' es' n ha hh ar he; cases ar; simp [asmG] at he; subst he; exact ⟨rfl, rfl, fun j a v d z => by simp at z⟩
    | cons a as' ih =>
      intro hs' vs' ds' es' n ha hh ar he
      have em : (∀ i, a.sl ≠ some i) → Sa n = [] := fun z => t.emp n fun i q => by
        have := ha 0
        simp at this
        rw [List.getElem?_map, ← this] at q
        simp at q
        exact z i q
      have fin : ∀ {h : Option (Lc × D)} {hs'' : List (Option (Lc × D))} {v : V} {vs'' : List V} {d : D} {ds'' : List (Option D)} {es'' : List D}, hs' = h :: hs'' → ArgsG K G B H σ as' vs'' ds'' → asmG as' ds'' hs'' ρ0 = some es'' → ((Dat K G (less G (fun a => ∃ j, a ∈ Sa j) H) H (Sa n) v d ∧ MOk a.md (Sa n) d) ∧ ∀ i, a = .m i → σ[i]? = some (some v)) →
          (v :: vs'').length = (a :: as').length ∧ (d :: es'').length = (a :: as').length ∧ ∀ (j : Nat) (a' : Gg) (v' : V) (d' : D), (a :: as')[j]? = some a' → (v :: vs'')[j]? = some v' → (d :: es'')[j]? = some d' → (Dat K G (less G (fun a => ∃ j, a ∈ Sa j) H) H (Sa (n + j)) v' d' ∧ MOk a'.md (Sa (n + j)) d') ∧ ∀ i, a' = .m i → σ[i]? = some (some v') := fun {h hs'' v vs'' d ds'' es''} eh tl he' hd => by
        subst eh
        obtain ⟨i1, i2, i3⟩ := ih (n + 1) (fun j => by have := ha (j + 1); simp at this; rw [this]; congr 1; omega) (fun j => by have := hh (j + 1); simp at this; rw [this]; congr 1; omega) tl he'
        refine ⟨by simp [i1], by simp [i2], fun j a' v' d' h1 h2 h3 => ?_⟩
        cases j with
        | zero => simp at h1 h2 h3; subst h1 h2 h3; exact hd
        | succ j =>
          have := i3 j a' v' d' (by simpa using h1) (by simpa using h2) (by simpa using h3)
          rwa [show n + 1 + j = n + (j + 1) by omega] at this
      cases ar with
      | @r i v _ _ _ hv tl =>
        cases hs' with
        | nil => simp [asmG] at he
        | cons h hs'' =>
          simp only [asmG] at he
          cases hl : look ρ0 i with
          | none => rw [hl] at he; cases he
          | some d =>
            rw [hl] at he
            simp only [Option.map_eq_some_iff] at he
            obtain ⟨es'', h1, rfl⟩ := he
            refine fin rfl tl h1 ⟨?_, fun i z => by cases z⟩
            rw [em (fun i z => by cases z)]
            obtain ⟨l, l1, l2⟩ := look_lc hl
            obtain ⟨v1, c1, c2⟩ := t.rep.lc_at l1
            obtain ⟨v2, b1, b2, b3, _, _⟩ := t.rep.takeL l2
            have := Lc.at_eq b1 c2
            subst this
            rw [hv] at c1
            cases c1
            exact ⟨dat_view (fun _ _ z => z) t.rep.gh bh (fun a m ⟨j, z⟩ => ((t.tok j).2 a z).1 _ m) hB hG b3, rfl, view_lent _⟩
      | @m i v _ _ _ hv tl =>
        cases hs' with
        | nil => simp [asmG] at he
        | cons h hs'' =>
          cases h with
          | none => simp [asmG] at he
          | some h =>
            obtain ⟨l, d⟩ := h
            simp only [asmG] at he
            by_cases nb : d.noBor = true
            · rw [if_pos nb, Option.map_eq_some_iff] at he
              obtain ⟨es'', h1, rfl⟩ := he
              refine fin rfl tl h1 ⟨?_, fun j z => by cases z; exact hv⟩
              have g1 := ha 0
              have g2 := hh 0
              simp at g1 g2
              obtain ⟨l', d', v', a1, a2, a3, a4, a5⟩ := t.som n i (by rw [List.getElem?_map, ← g1]; rfl)
              rw [← g2] at a1
              cases a1
              rw [hv] at a2
              cases a2
              exact ⟨a5.anyB nb, a4, nb⟩
            · rw [if_neg nb] at he; cases he
      | @g _ v d _ _ _ hd tl =>
        cases hs' with
        | nil => simp [asmG] at he
        | cons h hs'' =>
          simp only [asmG, Option.map_eq_some_iff] at he
          obtain ⟨es'', h1, rfl⟩ := he
          refine fin rfl tl h1 ⟨?_, fun i z => by cases z⟩
          rw [em (fun i z => by cases z)]
          exact ⟨dat_view (fun _ _ z => z) t.rep.gh bh (fun a m => by cases m) hB hG hd, rfl, view_lent _⟩
      | @k _ v d _ _ _ hd tl =>
        cases hs' with
        | nil => simp [asmG] at he
        | cons h hs'' =>
          simp only [asmG] at he
          by_cases nb : d.kept = true
          · rw [if_pos nb, Option.map_eq_some_iff] at he
            obtain ⟨es'', h1, rfl⟩ := he
            refine fin rfl tl h1 ⟨?_, fun i z => by cases z⟩
            rw [em (fun i z => by cases z)]
            exact ⟨hd.anyB (kept_noBor nb), rfl, nb⟩
          · rw [if_neg nb] at he; cases he
  obtain ⟨k1, k2, k3⟩ := key 0 (fun j => by rw [Nat.zero_add]) (fun j => by rw [Nat.zero_add]) ar he
  refine ⟨t.rep, t.tok, t.dj, by simp [k1], by simp [k2], fun j md v d h1 h2 h3 => ?_, fun j l h => ?_⟩
  · rw [List.getElem?_map] at h1
    cases ha : as[j]? with
    | none => rw [ha] at h1; cases h1
    | some a =>
      rw [ha] at h1
      cases h1
      have := (k3 j a v d ha h2 h3).1
      rwa [Nat.zero_add] at this
  · rw [List.getElem?_map] at h
    cases hh : hs[j]? with
    | none => rw [hh] at h; cases h
    | some z =>
      rw [hh] at h
      cases z with
      | none => cases h
      | some z =>
        obtain ⟨l', d⟩ := z
        cases h
        have hl : j < as.length := by
          have := (List.getElem?_eq_some_iff.mp hh).1
          rw [t.len] at this
          simpa using this
        have ha : as[j]? = some as[j] := by simp [hl]
        cases hc : as[j] with
        | m i =>
          rw [hc] at ha
          obtain ⟨l2, d2, v2, a1, a2, a3, a4, a5⟩ := t.som j i (by rw [List.getElem?_map, ha]; rfl)
          rw [hh] at a1
          cases a1
          refine ⟨by rw [List.getElem?_map, ha]; rfl, fun v hv => ?_⟩
          have he : es[j]? = some (es[j]'(by rw [k2]; exact hl)) := by simp [k2, hl]
          have := (k3 j _ v _ ha hv he).2 i rfl
          rw [a2] at this
          cases this
          exact a3
        | _ =>
          rw [hc] at ha
          have := t.non j (by rw [List.getElem?_map, ha]; rfl)
          rw [hh] at this; cases this
theorem faG_P {K : PySem.W.Frag} {G B Φ : Hp} {As : List V} {σ : L2.St} {ρ : Plc} {R : List V → Hp → Prop} (q : (faG as ρ).P (fun x => ∀ G' H' S' Sa vs, Same G G' → Rdy K G' B Φ H' As S' σ x.2.2 (as.map Gg.md) Sa vs x.1 x.2.1 → R vs H') (GX K W G B Φ As σ)) :
    (evalG as ρ).P (fun y => ∀ G' H' S' vs, Same G G' → VRep K G' B Φ H' As S' σ y.2 → ArgsG K G' B H' σ as vs y.1 → R vs H') (GX K W G B Φ As σ) := by
  refine Out.P_mono (Out.P_bind.mp q) (fun y q1 G' H' S' vs s r ar => ?_) fun _ z => z
  cases ht : takeH (as.map Gg.sl) y.2 with
  | none => rw [ht] at q1; exact q1.elim
  | some x =>
    obtain ⟨hs, ρ0⟩ := x
    rw [ht] at q1
    simp only at q1
    obtain ⟨S2, Sa, t⟩ := take_ok r ht
    cases he : asmG as y.1 hs ρ0 with
    | none => rw [he] at q1; exact q1.elim
    | some es =>
      rw [he] at q1
      exact q1 G' H' S2 Sa vs s (argsG_rdy (ρ := ρ) t ar he)
theorem ca_g (h : Ggs X W es as) : CA X W es (as.map Gg.md) (faG as) := paI (cg_pa h) fun σ H R ⟨G, B, Φ, As, S, ρ, r, q⟩ => ⟨G, B, Φ, As, S, ρ, r, faG_P q⟩
theorem cm_g (h : Ggs X W (o :: es) (a :: as)) : CM X W C m o es ((a :: as).map Gg.md) (fmG C m (a :: as)) := by
  obtain ⟨te, h1, _, h2⟩ := cg_pe (C := C) (m := m) h
  refine ⟨te, _, h1, cg_pa h.tail, fun σ H R ⟨G, B, Φ, As, S, ρ, r, q⟩ => ?_⟩
  obtain ⟨ho, q⟩ := Out.P_ifn q
  exact h2 σ H R _ ⟨G, B, Φ, As, S, ρ, r, ho, faG_P q⟩ fun _ _ z => z
theorem cm0_g (h : Ggs X W [o] [a]) : CM0 X W C m o [a.md] (fmG C m [a]) := by
  obtain ⟨te, h1, _, h2⟩ := cg_pe (C := C) (m := m) h
  refine ⟨te, h1, fun σ H R ⟨G, B, Φ, As, S, ρ, r, q⟩ => ?_⟩
  obtain ⟨ho, q⟩ := Out.P_ifn q
  refine h2 σ H R _ ⟨G, B, Φ, As, S, ρ, r, ho, faG_P q⟩ fun x H1 ⟨G, B, Φ, As, S, ρ, r, q⟩ => ?_
  exact q G H1 S [] (fun _ _ z => z) r .nil
end
end VL

/-! VLv: a tree within a tree; paths. -/
namespace VL
open PySem PySem.Spec PyProof.Rows L2

/-- w with its tree e stands within v with its tree d; another tree at w makes the whole `put` of it -/
structure Zip (K : PySem.W.Frag) (G B H : Hp) (S : List Addr) (v : V) (w : V) (e : D) (put : D → D) : Prop where
  ex : ∃ S1 S2, S.Perm (S1 ++ S2) ∧ Dat K G B H S1 w e ∧ e.old ∧ ∀ (G' B' H' : Hp) (T : List Addr) (e' : D), Same G G' → Same B B' → On S2 H H' → Dat K G' B' H' T w e' → e'.old → (put e').old ∧ ∃ S', S'.Perm (T ++ S2) ∧ Dat K G' B' H' S' v (put e')
theorem Zip.refl {K : PySem.W.Frag} {G B H : Hp} {S : List Addr} {v : V} {d : D} (h : Dat K G B H S v d) (n : d.old) : Zip K G B H S v v d id :=
  ⟨S, [], by simp, h, n, fun G' B' H' T e' _ _ _ h' n' => ⟨n', T, by simp, h'⟩⟩
theorem Zip.trans {K : PySem.W.Frag} {G B H : Hp} {S S1 S2 : List Addr} {v w u : V} {e2 : D} {p1 p2 : D → D} (hp : S.Perm (S1 ++ S2)) (k : ∀ (G' B' H' : Hp) (T : List Addr) (e' : D), Same G G' → Same B B' → On S2 H H' → Dat K G' B' H' T w e' → e'.old → (p1 e').old ∧ ∃ S', S'.Perm (T ++ S2) ∧ Dat K G' B' H' S' v (p1 e')) (b : Zip K G B H S1 w u e2 p2) : Zip K G B H S v u e2 (p1 ∘ p2) := by
  obtain ⟨U1, U2, hp2, hd2, n2, k2⟩ := b.ex
  refine ⟨U1, U2 ++ S2, ?_, hd2, n2, fun G' B' H' T e' g bb on h' n' => ?_⟩
  · have := hp.trans (hp2.append_right S2)
    rwa [List.append_assoc] at this
  · obtain ⟨m1, T1, q1, h1⟩ := k2 G' B' H' T e' g bb on.l h' n'
    obtain ⟨m2, T2, q2, h2⟩ := k G' B' H' T1 _ g bb on.r h1 m1
    refine ⟨m2, T2, ?_, h2⟩
    have := q2.trans (q1.append_right S2)
    rwa [List.append_assoc] at this
theorem Zip.ext {K : PySem.W.Frag} {G B H G1 H1 : Hp} {S : List Addr} {v w : V} {e : D} {p : D → D} (x : Ext G H G1 H1) (z : Zip K G B H S v w e p) : Zip K G1 B H1 S v w e p := by
  obtain ⟨S1, S2, hp, hd, n, k⟩ := z.ex
  exact ⟨S1, S2, hp, hd.mono x.g (fun _ _ q => q) (On.of x.h), n, fun G' B' H' T e' g bb on h' n' => k G' B' H' T e' (x.g.trans g) bb (fun a m o q => on a m o (x.h a o q)) h' n'⟩
section
variable {K : PySem.W.Frag} {G B H : Hp}
/-- an element of a list -/
theorem zipL : ∀ {S : List Addr} {vs : List V} {ds : List D} {j : Nat} {e : D}, Dats K G B H S vs ds → ds[j]? = some e → ∃ w S1 S2, vs[j]? = some w ∧ S.Perm (S1 ++ S2) ∧ Dat K G B H S1 w e ∧ e.old ∧
    ∀ (G' B' H' : Hp) (T : List Addr) (e' : D), Same G G' → Same B B' → On S2 H H' → Dat K G' B' H' T w e' → e'.old → ∃ S', S'.Perm (T ++ S2) ∧ Dats K G' B' H' S' vs (ds.set j e')
  | _, _, _, j, e, .nil, h => by simp at h
  | _, _, _, 0, e, .cons (S := S0) (T := T0) n hd t, h => by
    simp at h
    subst h
    exact ⟨_, S0, T0, rfl, .refl _, hd, n, fun G' B' H' T e' g b on h' n' => ⟨T ++ T0, .refl _, .cons n' h' (t.mono g b on)⟩⟩
  | _, _, _, j + 1, e, .cons (S := S0) (T := T0) n hd t, h => by
    obtain ⟨w, S1, S2, h1, h2, h3, h4, k⟩ := zipL t (by simpa using h)
    refine ⟨w, S1, S0 ++ S2, by simpa using h1, ?_, h3, h4, fun G' B' H' T e' g b on h' n' => ?_⟩
    · exact (h2.append_left S0).trans (List.perm_append_comm_assoc _ _ _)
    · obtain ⟨S', q, r⟩ := k G' B' H' T e' g b on.r h' n'
      exact ⟨S0 ++ S', (q.append_left S0).trans (List.perm_append_comm_assoc _ _ _), .cons n (hd.mono g b on.l) r⟩
def setK : List (Kd × D) → Kd → D → List (Kd × D)
  | [], _, _ => []
  | (k', d) :: r, k, e => if k' = k then (k', e) :: r else (k', d) :: setK r k e
def getKV : List (Kd × V) → Kd → Option V
  | [], _ => none
  | (k', d) :: r, k => if k' = k then some d else getKV r k
theorem zipM : ∀ {S : List Addr} {vs : List (Kd × V)} {ds : List (Kd × D)} {k : Kd} {e : D}, DatM K G B H S vs ds → getK ds k = some e → ∃ w S1 S2, getKV vs k = some w ∧ S.Perm (S1 ++ S2) ∧ Dat K G B H S1 w e ∧ e.old ∧
    ∀ (G' B' H' : Hp) (T : List Addr) (e' : D), Same G G' → Same B B' → On S2 H H' → Dat K G' B' H' T w e' → e'.old → ∃ S', S'.Perm (T ++ S2) ∧ DatM K G' B' H' S' vs (setK ds k e')
  | _, _, _, k, e, .nil, h => by simp [getK] at h
  | _, _, _, k, e, .cons (S := S0) (T := T0) (k := k0) n hd t, h => by
    rw [getK] at h
    by_cases hk : k0 = k
    · rw [if_pos hk] at h
      cases h
      refine ⟨_, S0, T0, by rw [getKV, if_pos hk], .refl _, hd, n, fun G' B' H' T e' g b on h' n' => ⟨T ++ T0, .refl _, ?_⟩⟩
      rw [setK, if_pos hk]
      exact .cons n' h' (t.mono g b on)
    · rw [if_neg hk] at h
      obtain ⟨w, S1, S2, h1, h2, h3, h4, kk⟩ := zipM t h
      refine ⟨w, S1, S0 ++ S2, by rw [getKV, if_neg hk]; exact h1, (h2.append_left S0).trans (List.perm_append_comm_assoc _ _ _), h3, h4, fun G' B' H' T e' g b on h' n' => ?_⟩
      obtain ⟨S', q, r⟩ := kk G' B' H' T e' g b on.r h' n'
      refine ⟨S0 ++ S', (q.append_left S0).trans (List.perm_append_comm_assoc _ _ _), ?_⟩
      rw [setK, if_neg hk]
      exact .cons n (hd.mono g b on.l) r
theorem getKV_F {f : Str} {w : V} : ∀ {vs : List (Str × V)}, getKV (vs.map kF) (kS f) = some w → vs.lookup f = some w
  | [], h => by cases h
  | (k, v) :: vs, h => by
    rw [List.map_cons, show kF (k, v) = (kS k, v) from rfl, getKV] at h
    by_cases e : k = f
    · subst e
      rw [if_pos rfl] at h
      cases h
      simp [List.lookup_cons]
    · rw [if_neg (by simpa using e)] at h
      rw [List.lookup_cons, show (f == k) = false by simpa using Ne.symm e]
      exact getKV_F h
theorem getKV_K {f : Key} {w : V} : ∀ {vs : List (Key × V)}, getKV (vs.map kK) (.k f) = some w → valV vs f = some w
  | [], h => by cases h
  | (k, v) :: vs, h => by
    rw [List.map_cons, show kK (k, v) = (.k k, v) from rfl, getKV] at h
    by_cases e : k = f
    · subst e
      rw [if_pos rfl] at h
      cases h
      exact valV_pos rfl
    · rw [if_neg (by simpa using e)] at h
      rw [valV_neg e]
      exact getKV_K h
theorem getKV_T {f : List Key} {w : V} : ∀ {vs : List (List Key × V)}, getKV (vs.map kT) (.t f) = some w → valV vs f = some w
  | [], h => by cases h
  | (k, v) :: vs, h => by
    rw [List.map_cons, show kT (k, v) = (.t k, v) from rfl, getKV] at h
    by_cases e : k = f
    · subst e
      rw [if_pos rfl] at h
      cases h
      exact valV_pos rfl
    · rw [if_neg (by simpa using e)] at h
      rw [valV_neg e]
      exact getKV_T h
theorem on_ad {f : Fl} {p : Addr} {S2 : List Addr} {H H' : Hp} (h : On (f.ad p ++ S2) H H') : On (f.ad p ++ []) H H' := fun a m => h a (by simp at m; simp [m])
/-- a field -/
theorem zip_fld {S : List Addr} {v : V} {fl : Fl} {C : Addr} {fs : List (Kd × D)} {f : Str} {e : D} (h : Dat K G B H S v (.obj fl C fs)) (n : (D.obj fl C fs).old) (hk : getK fs (kS f) = some e) : ∃ p dx vs w, v = .ref p ∧ Nd G B H fl p (.ins C dx vs) ∧ vs.lookup f = some w ∧ Zip K G B H S v w e fun e' => .obj fl C (setK fs (kS f) e') := by
  cases h with
  | @obj U _ p _ dx vs _ nd hs =>
    obtain ⟨w, S1, S2, h1, h2, h3, h4, k⟩ := zipM hs hk
    refine ⟨p, dx, vs, w, rfl, nd, getKV_F h1, S1, fl.ad p ++ S2, (h2.append_left _).trans (List.perm_append_comm_assoc _ _ _), h3, h4, fun G' B' H' T e' g b on h' n' => ⟨?_, ?_⟩⟩
    · simpa [D.root] using n
    · obtain ⟨S', q, r⟩ := k G' B' H' T e' g b on.r h' n'
      exact ⟨fl.ad p ++ S', (q.append_left _).trans (List.perm_append_comm_assoc _ _ _), .obj (nd.mono g b (on_ad on)) r⟩
/-- an element -/
theorem zip_lst {S : List Addr} {v : V} {fl : Fl} {ds : List D} {j : Nat} {e : D} (h : Dat K G B H S v (.lst fl ds)) (n : (D.lst fl ds).old) (hf : fl ≠ .loc) (hk : ds[j]? = some e) : ∃ p vs w, v = .ref p ∧ Nd G B H fl p (.lst vs) ∧ vs.length = ds.length ∧ vs[j]? = some w ∧ Zip K G B H S v w e fun e' => .lst fl (ds.set j e') := by
  cases h with
  | lok _ _ => exact absurd rfl hf
  | @lst U _ p vs _ nd hs =>
    obtain ⟨w, S1, S2, h1, h2, h3, h4, k⟩ := zipL hs hk
    refine ⟨p, vs, w, rfl, nd, hs.length, h1, S1, fl.ad p ++ S2, (h2.append_left _).trans (List.perm_append_comm_assoc _ _ _), h3, h4, fun G' B' H' T e' g b on h' n' => ⟨?_, ?_⟩⟩
    · simpa [D.root] using n
    · obtain ⟨S', q, r⟩ := k G' B' H' T e' g b on.r h' n'
      exact ⟨fl.ad p ++ S', (q.append_left _).trans (List.perm_append_comm_assoc _ _ _), .lst (nd.mono g b (on_ad on)) r⟩
theorem zip_tup {S : List Addr} {v : V} {ds : List D} {j : Nat} {e : D} (h : Dat K G B H S v (.tup ds)) (hk : ds[j]? = some e) : ∃ p vs w, v = .ref p ∧ TupO K G p vs ∧ vs.length = ds.length ∧ vs[j]? = some w ∧ Zip K G B H S v w e fun e' => .tup (ds.set j e') := by
  cases h with
  | @tup _ p vs _ nd hs =>
    obtain ⟨w, S1, S2, h1, h2, h3, h4, k⟩ := zipL hs hk
    refine ⟨p, vs, w, rfl, nd, hs.length, h1, S1, S2, h2, h3, h4, fun G' B' H' T e' g b on h' n' => ⟨by simp [D.root], ?_⟩⟩
    obtain ⟨S', q, r⟩ := k G' B' H' T e' g b on h' n'
    exact ⟨S', q, .tup (nd.mono g) r⟩
theorem zip_dic {S : List Addr} {v : V} {fl : Fl} {ds : List (Kd × D)} {q : Key} {e : D} (h : Dat K G B H S v (.dic fl ds)) (n : (D.dic fl ds).old) (hk : getK ds (.k q) = some e) : ∃ p vs w, v = .ref p ∧ NdR G B H fl p (.dK vs) ∧ valV vs q = some w ∧ Zip K G B H S v w e fun e' => .dic fl (setK ds (.k q) e') := by
  cases h with
  | @dic U _ p vs _ nd hs =>
    obtain ⟨w, S1, S2, h1, h2, h3, h4, k⟩ := zipM hs hk
    refine ⟨p, vs, w, rfl, nd, getKV_K h1, S1, fl.ad p ++ S2, (h2.append_left _).trans (List.perm_append_comm_assoc _ _ _), h3, h4, fun G' B' H' T e' g b on h' n' => ⟨?_, ?_⟩⟩
    · simpa [D.root] using n
    · obtain ⟨S', q, r⟩ := k G' B' H' T e' g b on.r h' n'
      exact ⟨fl.ad p ++ S', (q.append_left _).trans (List.perm_append_comm_assoc _ _ _), .dic (nd.mono g b (on_ad on)) r⟩
theorem zip_dit {S : List Addr} {v : V} {fl : Fl} {ds : List (Kd × D)} {q : List Key} {e : D} (h : Dat K G B H S v (.dit fl ds)) (n : (D.dit fl ds).old) (hk : getK ds (.t q) = some e) : ∃ p vs w, v = .ref p ∧ NdR G B H fl p (.dT vs) ∧ valV vs q = some w ∧ Zip K G B H S v w e fun e' => .dit fl (setK ds (.t q) e') := by
  cases h with
  | @dit U _ p vs _ nd hs =>
    obtain ⟨w, S1, S2, h1, h2, h3, h4, k⟩ := zipM hs hk
    refine ⟨p, vs, w, rfl, nd, getKV_T h1, S1, fl.ad p ++ S2, (h2.append_left _).trans (List.perm_append_comm_assoc _ _ _), h3, h4, fun G' B' H' T e' g b on h' n' => ⟨?_, ?_⟩⟩
    · simpa [D.root] using n
    · obtain ⟨S', q, r⟩ := k G' B' H' T e' g b on.r h' n'
      exact ⟨fl.ad p ++ S', (q.append_left _).trans (List.perm_append_comm_assoc _ _ _), .dit (nd.mono g b (on_ad on)) r⟩
end

/-! ### paths -/
/-- a place, the tree at the path's end, the whole with another one there -/
structure Pt where
  l : Lc
  e : D
  put : D → D
abbrev FP := Plc → Out Exn Pt
structure PathR (K : PySem.W.Frag) (G B H : Hp) (As : List V) (S : Pi → List Addr) (σ : L2.St) (ρ : Plc) (w : V) (x : Pt) : Prop where
  ex : ∃ d v, ρ.get x.l = some d ∧ x.l.At σ As v ∧ Zip K G B H (S x.l.pi) v w x.e x.put
theorem PathR.ext {K : PySem.W.Frag} {G B H G1 H1 : Hp} {As : List V} {S : Pi → List Addr} {σ : L2.St} {ρ : Plc} {w : V} {x : Pt} (e : Ext G H G1 H1) (h : PathR K G B H As S σ ρ w x) : PathR K G1 B H1 As S σ ρ w x :=
  let ⟨d, v, a, b, z⟩ := h.ex
  ⟨d, v, a, b, z.ext e⟩
def upP (K : PySem.W.Frag) (W : WX) (fp : FP) : TE := fun σ H R => ∃ (G B Φ : Hp) (As : List V) (S : Pi → List Addr) (ρ : Plc), VRep K G B Φ H As S σ ρ ∧ (fp ρ).P (fun x => ∀ G' H' w, Ext G H G' H' → PathR K G' B H' As S σ ρ w x → R w H') (EX K W G B H σ)
abbrev PP (X : Cx) (W : WX) (e : Expr) (fp : FP) : Prop := PE X e (upP X.K W fp)
def pNm (i : Nat) : FP := fun ρ => match ρ.lc i with
  | some l => match ρ.get l with
    | some d => .ok ⟨l, d, id⟩
    | none => .no
  | none => .no
def pFld (C : Addr) (f : Str) (fp : FP) : FP := fun ρ => (fp ρ).bind fun x => match x.e with
  | .obj fl C' fs => if C' = C then (match getK fs (kS f) with
    | some d => .ok ⟨x.l, d, x.put ∘ fun d' => .obj fl C (setK fs (kS f) d')⟩
    | none => .no) else .no
  | _ => .no
def pIx (fp : FP) (fq : FQ) : FP := fun ρ => (fp ρ).bind fun x => (fq ρ).bind fun k => match x.e, k with
  | .lst fl ds, .int i => if fl = .loc then .no else (match ixN ds.length i with
    | some j => match ds[j]? with
      | some d => .ok ⟨x.l, d, x.put ∘ fun d' => .lst fl (ds.set j d')⟩
      | none => .no
    | none => .no)
  | .tup ds, .int i => (match ixN ds.length i with
    | some j => match ds[j]? with
      | some d => .ok ⟨x.l, d, x.put ∘ fun d' => .tup (ds.set j d')⟩
      | none => .no
    | none => .no)
  | .dic fl kvs, k => (match keyK k with
    | some q => match getK kvs (.k q) with
      | some d => .ok ⟨x.l, d, x.put ∘ fun d' => .dic fl (setK kvs (.k q) d')⟩
      | none => .no
    | none => .no)
  | .dit fl kvs, k => (match keyT k with
    | some q => match getK kvs (.t q) with
      | some d => .ok ⟨x.l, d, x.put ∘ fun d' => .dit fl (setK kvs (.t q) d')⟩
      | none => .no
    | none => .no)
  | _, _ => .no
section
variable {X : Cx} {W : WX} {e i o : Expr} {pos p apos : Pos} {x f : Str} {C : Addr} {fp : FP} {fq : FQ}
theorem pp_nm (n : Nat) (hN : X.N[n]? = some x := by rfl) (hv : Vis X.env.scope x := by first | exact Or.inl rfl | exact Or.inr (Or.inl rfl) | exact Or.inr (Or.inr rfl)) (hd : (x == ("__debug__" : Str)) = false := by decide) (hcd : (x == ("__classdict__" : Str)) = false := by decide) : PP X W (.Name x pos) (pNm n) :=
  peI (pe_var hN hv hd hcd) fun σ H R ⟨G, B, Φ, As, S, ρ, r, q⟩ => by
    unfold pNm at q
    cases hl : ρ.lc n with
    | none => rw [hl] at q; exact q.elim
    | some l =>
      rw [hl] at q
      simp only at q
      cases hg : ρ.get l with
      | none => rw [hg] at q; exact q.elim
      | some d =>
        rw [hg] at q
        obtain ⟨v, h1, h2⟩ := r.lc_at hl
        obtain ⟨v', a1, a2, a3, _, _⟩ := r.takeL hg
        have := Lc.at_eq h2 a1
        subst this
        exact ⟨v, h1, q G H v (Ext.refl r.gh) ⟨d, v, hg, h2, .refl a3 a2⟩⟩
theorem upP_bind {K : PySem.W.Frag} {σ : L2.St} {G B Φ H : Hp} {As : List V} {S : Pi → List Addr} {ρ : Plc} {α : Type} {k : Pt → Out Exn α} {R : VK} {P : α → Prop} (r : VRep K G B Φ H As S σ ρ) (h : ((fp ρ).bind k).P P (EX K W G B H σ))
    (go : ∀ x G1 H1 w, Ext G H G1 H1 → PathR K G1 B H1 As S σ ρ w x → (k x).P P (EX K W G B H σ) → R w H1) : upP K W fp σ H R :=
  ⟨G, B, Φ, As, S, ρ, r, Out.P_mono (Out.P_bind.mp h) (fun x q G1 H1 w e pr => go x G1 H1 w e pr q) fun _ z => z⟩
theorem pp_fld (c : Cls X.K C) (nf : NoAttr X.K C f) (he : PP X W e fp) (hb : attributeBase e f X.env (eval e X.env) = eval e X.env := by rfl) : PP X W (.Attribute e f pos) (pFld C f fp) := peI (pe_fld he hb) fun σ H R ⟨G, B, Φ, As, S, ρ, r, q⟩ =>
  upP_bind r q fun x G1 H1 w e1 pr q1 => by
    obtain ⟨l, d, put⟩ := x
    simp only at q1
    cases d with
    | obj fl C' fs =>
      simp only at q1
      obtain ⟨hC, q1⟩ := Out.P_ifn q1
      subst hC
      cases hk : getK fs (kS f) with
      | none => rw [hk] at q1; exact q1.elim
      | some d2 =>
        rw [hk] at q1
        obtain ⟨d0, v0, h1, h2, z⟩ := pr.ex
        have r1 := r.ext e1
        obtain ⟨S1, S2, z1, z2, z3, z4⟩ := z.ex
        obtain ⟨p, dx, vs, w2, rfl, nd, lk, zz⟩ := zip_fld z2 z3 hk
        exact ⟨p, C', dx, vs, w2, rfl, nd.here r1.gh (bh_of r1), c, nf, lk, q1 G1 H1 w2 e1 ⟨d0, v0, h1, h2, by have tz := Zip.trans z1 z4 zz; exact tz⟩⟩
    | _ => exact q1.elim
theorem pp_ix (hu : X.A.units + 1 < cLine) (ho : PP X W o fp) (hi : QE X W i fq) (hs : PlainIx i := by intro _ _; rfl) : PP X W (.Subscript o i pos) (pIx fp fq) := peI (pe_ix (ix_U hu) ho hi hs) fun σ H R ⟨G, B, Φ, As, S, ρ, r, q⟩ =>
  upP_bind r q fun x G1 H1 w e1 pr q1 => upQ_bind (r.so.ext e1) (Out.P_mono q1 (fun _ z => z) fun _ z => EX.ext e1 z) fun k G2 H2 u e2 hk fr q2 => by
    obtain ⟨l, d, put⟩ := x
    obtain ⟨d0, v0, h1, h2, z⟩ := pr.ex
    have r2 := (r.ext e1).ext e2
    have bh2 := bh_of r2
    obtain ⟨S1, S2, z1, z2, z3, z4⟩ := (z.ext e2).ex
    simp only at q2
    split at q2
    · rename_i fl ds i
      by_cases hf : fl = .loc
      · rw [if_pos hf] at q2; exact q2.elim
      · rw [if_neg hf] at q2
        cases hj : ixN ds.length i with
        | none => rw [hj] at q2; exact q2.elim
        | some j =>
          rw [hj] at q2
          simp only at q2
          cases hd : ds[j]? with
          | none => rw [hd] at q2; exact q2.elim
          | some d2 =>
            rw [hd] at q2
            obtain ⟨p, vs, w2, rfl, nd, hl, hw, zz⟩ := zip_lst z2 z3 hf hd
            refine .inl (.inl ⟨p, vs, i, w2, rfl, dt_int hk, SqL.of (nd.here r2.gh bh2), ?_, q2 G2 H2 w2 (e1.trans e2) ⟨d0, v0, h1, h2, by have tz := Zip.trans z1 z4 zz; exact tz⟩⟩)
            unfold atI
            rw [hl, hj]
            exact hw
    · rename_i ds i
      cases hj : ixN ds.length i with
      | none => rw [hj] at q2; exact q2.elim
      | some j =>
        rw [hj] at q2
        simp only at q2
        cases hd : ds[j]? with
        | none => rw [hd] at q2; exact q2.elim
        | some d2 =>
          rw [hd] at q2
          obtain ⟨p, vs, w2, rfl, nd, hl, hw, zz⟩ := zip_tup z2 hd
          refine .inl (.inr (.inl ⟨p, vs, i, w2, rfl, dt_int hk, Same.sqT r2.gh nd.sq, ?_, q2 G2 H2 w2 (e1.trans e2) ⟨d0, v0, h1, h2, by have tz := Zip.trans z1 z4 zz; exact tz⟩⟩))
          unfold atI
          rw [hl, hj]
          exact hw
    · rename_i fl kvs
      cases hq : keyK k with
      | none => rw [hq] at q2; exact q2.elim
      | some qk =>
        rw [hq] at q2
        simp only at q2
        cases hd : getK kvs (.k qk) with
        | none => rw [hd] at q2; exact q2.elim
        | some d2 =>
          rw [hd] at q2
          obtain ⟨p, vs, w2, rfl, nd, hw, zz⟩ := zip_dic z2 z3 hd
          have := key_dt hk hq
          subst this
          exact .inr ⟨p, w2, rfl, .inl ⟨vs, qk, nd.here r2.gh bh2, rfl, hw.symm⟩, q2 G2 H2 w2 (e1.trans e2) ⟨d0, v0, h1, h2, by have tz := Zip.trans z1 z4 zz; exact tz⟩⟩
    · rename_i fl kvs
      cases hq : keyT k with
      | none => rw [hq] at q2; exact q2.elim
      | some qk =>
        rw [hq] at q2
        simp only at q2
        cases hd : getK kvs (.t qk) with
        | none => rw [hd] at q2; exact q2.elim
        | some d2 =>
          rw [hd] at q2
          obtain ⟨p, vs, w2, rfl, nd, hw, zz⟩ := zip_dit z2 z3 hd
          obtain ⟨b, rfl, hb, _⟩ := keyT_dt r2.gh hk hq
          exact .inr ⟨p, w2, rfl, .inr ⟨vs, qk, b, nd.here r2.gh bh2, rfl, hb, hw.symm⟩, q2 G2 H2 w2 (e1.trans e2) ⟨d0, v0, h1, h2, by have tz := Zip.trans z1 z4 zz; exact tz⟩⟩
    · exact q2.elim
end
end VL

/-! VLw: lists whose values are owned; what stands at a path is changed. -/
namespace VL
open PySem PySem.Spec PyProof.Rows L2

/-! ### lists of values that are kept aside -/
def hold (Φ : Hp) (T : List Addr) (H : Hp) : Hp := fun a => if a ∈ T then H a else Φ a
theorem hold_at {Φ H : Hp} {T : List Addr} {a : Addr} (m : a ∈ T) : hold Φ T H a = H a := by simp [hold, m]
theorem hold_ne {Φ H : Hp} {T : List Addr} {a : Addr} (m : a ∉ T) : hold Φ T H a = Φ a := by simp [hold, m]
section
variable {K : PySem.W.Frag} {G B Φ H H0 : Hp} {As : List V} {S : Pi → List Addr} {σ : L2.St} {ρ : Plc} {T : List Addr}
theorem VRep.hold (r : VRep K G B Φ H As S σ ρ) (t : TOk T S G Φ H) : VRep K G B (VL.hold Φ T H) H As S σ ρ where
  gh := r.gh
  bp := fun a o e => by
    have := r.bp a o e
    by_cases m : a ∈ T
    · rw [(t.2 a m).2.2.1] at this; cases this
    · rw [hold_ne m]; exact this
  ph := fun a o e => by
    by_cases m : a ∈ T
    · rw [hold_at m] at e; exact e
    · rw [hold_ne m] at e; exact r.ph a o e
  dis := fun a o e => by
    by_cases m : a ∈ T
    · exact (t.2 a m).2.1
    · rw [hold_ne m] at e; exact r.dis a o e
  len := r.len
  alen := r.alen
  slot := r.slot
  arg := r.arg
  ar := r.ar
  nd := r.nd
  dj := r.dj
  fr := fun i a m => by
    obtain ⟨h1, h2, h3⟩ := r.fr i a m
    refine ⟨h1, ?_, h3⟩
    rw [hold_ne fun z => (t.2 a z).1 i m]
    exact h2
theorem VRep.unhold (r : VRep K G B (VL.hold Φ T H0) H As S σ ρ) (bp : Same B Φ) (hT : ∀ a ∈ T, Φ a = none) : VRep K G B Φ H As S σ ρ where
  gh := r.gh
  bp := bp
  ph := fun a o e => r.ph a o (by rw [hold_ne fun z => by rw [hT a z] at e; cases e]; exact e)
  dis := fun a o e => r.dis a o (by rw [hold_ne fun z => by rw [hT a z] at e; cases e]; exact e)
  len := r.len
  alen := r.alen
  slot := r.slot
  arg := r.arg
  ar := r.ar
  nd := r.nd
  dj := r.dj
  fr := fun i a m => by
    obtain ⟨h1, h2, h3⟩ := r.fr i a m
    refine ⟨h1, ?_, h3⟩
    by_cases z : a ∈ T
    · exact hT a z
    · rw [hold_ne z] at h2; exact h2
end
abbrev FL := Plc → Out (Exn × Plc) (List D × Plc)
def GKL (K : PySem.W.Frag) (G B Φ : Hp) (As : List V) (σ : L2.St) (R : List V → Hp → Prop) (x : List D × Plc) : Prop := ∀ G' H' S' vs T, Same G G' → VRep K G' B Φ H' As S' σ x.2 → Dats K G' B H' T vs x.1 → TOk T S' G' Φ H' → R vs H'
def upL (K : PySem.W.Frag) (W : WX) (f : FL) : TA := fun σ H R => ∃ (G B Φ : Hp) (As : List V) (S : Pi → List Addr) (ρ : Plc), VRep K G B Φ H As S σ ρ ∧ (f ρ).P (GKL K G B Φ As σ R) (GX K W G B Φ As σ)
abbrev GL (X : Cx) (W : WX) (es : List Expr) (f : FL) : Prop := PA X es (upL X.K W f)
def lNil : FL := fun ρ => .ok ([], ρ)
def lCons (ga : FG) (gs : FL) : FL := fun ρ => (ga ρ).bind fun x => (gs x.2).bind fun y => .ok (x.1 :: y.1, y.2)
theorem GX.hold {K : PySem.W.Frag} {W : WX} {G G1 B Φ H : Hp} {As : List V} {σ : L2.St} {T : List Addr} {x : Exn × Plc} (s : Same G G1) (bp : Same B Φ) (hT : ∀ a ∈ T, Φ a = none) (h : GX K W G B Φ As σ x) : GX K W G1 B (VL.hold Φ T H) As σ x := fun G' H' S' cls dx s' r er => h G' H' S' cls dx (s.trans s') (r.unhold bp hT) er
/-- a value aside, still there later -/
theorem hold_later {K : PySem.W.Frag} {G1 B Φ H1 G2 H2 : Hp} {As : List V} {S1 S2 : Pi → List Addr} {σ : L2.St} {ρ1 ρ2 : Plc} {T1 T2 : List Addr} (bp : Same B Φ) (t1 : TOk T1 S1 G1 Φ H1) (r2 : VRep K G2 B (VL.hold Φ T1 H1) H2 As S2 σ ρ2) (t2 : TOk T2 S2 G2 (VL.hold Φ T1 H1) H2) : On T1 H1 H2 ∧ VRep K G2 B Φ H2 As S2 σ ρ2 ∧ TOk (T1 ++ T2) S2 G2 Φ H2 := by
  have hT : ∀ a ∈ T1, Φ a = none := fun a m => (t1.2 a m).2.2.1
  have on : On T1 H1 H2 := fun a m o e => r2.ph a o (by rw [hold_at m]; exact e)
  refine ⟨on, r2.unhold bp hT, ?_⟩
  have at1 : ∀ a ∈ T1, ∃ o, VL.hold Φ T1 H1 a = some o ∧ H2 a = some o ∧ HO.free o := fun a m => by
    obtain ⟨_, _, _, o, h1, h2⟩ := t1.2 a m
    exact ⟨o, by rw [hold_at m]; exact h1, on a m o h1, h2⟩
  refine ⟨List.nodup_append.mpr ⟨t1.1, t2.1, fun a m b m' e => ?_⟩, fun a m => ?_⟩
  · subst e
    obtain ⟨o, h1, _⟩ := at1 a m
    rw [(t2.2 a m').2.2.1] at h1; cases h1
  · rcases List.mem_append.mp m with m | m
    · obtain ⟨o, h1, h2, h3⟩ := at1 a m
      refine ⟨fun i z => ?_, r2.dis a o h1, hT a m, o, h2, h3⟩
      rw [(r2.fr i a z).2.1] at h1; cases h1
    · obtain ⟨h1, h2, h3, h4⟩ := t2.2 a m
      refine ⟨h1, h2, ?_, h4⟩
      by_cases z : a ∈ T1
      · exact hT a z
      · rw [hold_ne z] at h3; exact h3
section
variable {X : Cx} {W : WX} {e o : Expr} {es : List Expr} {ga : FG} {gs : FL} {pos : Pos}
theorem gl_nil : GL X W [] lNil := paI pa_nil fun σ H R ⟨G, B, Φ, As, S, ρ, rp, q⟩ => q G H S [] [] (fun _ _ e => e) rp .nil .nil
theorem gl_cons (ha : GE X W e ga) (hr : GL X W es gs) (hs : starEach (e :: es) X.env = (false, eval e X.env) :: starEach es X.env := by rfl) : GL X W (e :: es) (lCons ga gs) :=
  paI (pa_cons ha hr hs) fun σ H R ⟨G, B, Φ, As, S, ρ, rp, q⟩ => by
    refine ⟨G, B, Φ, As, S, ρ, rp, Out.P_mono (Out.P_bind.mp q) (fun x q1 G1 H1 S1 v T1 s1 r1 hx n1 t1 => ?_) fun _ z => z⟩
    have hT : ∀ a ∈ T1, Φ a = none := fun a m => (t1.2 a m).2.2.1
    refine ⟨G1, B, _, As, S1, x.2, r1.hold t1, Out.P_mono (Out.P_bind.mp q1) (fun y q2 G2 H2 S2 vs T2 s2 r2 hds t2 => ?_) fun _ z => z.hold s1 rp.bp hT⟩
    obtain ⟨on, r3, t3⟩ := hold_later (ρ1 := x.2) rp.bp t1 r2 t2
    exact q2 G2 H2 S2 (v :: vs) (T1 ++ T2) (s1.trans s2) r3 (.cons n1 (hx.mono s2 (fun _ _ q => q) on) hds) t3
def gTupL (gs : FL) : FG := fun ρ => (gs ρ).bind mkTupG
def gLstL (gs : FL) : FG := fun ρ => (gs ρ).bind mkLstG
theorem ge_tupL {x1} (h : GL X W es gs) : GE X W (.Tuple es x1 pos) (gTupL gs) := peI (pe_tup h) fun σ H R ⟨G, B, Φ, As, S, ρ, rp, q⟩ => by
  refine ⟨G, B, Φ, As, S, ρ, rp, Out.P_mono (Out.P_bind.mp q) (fun x q1 G1 H1 S1 vs T1 s1 r1 hx t1 => ?_) fun _ z => z⟩
  obtain ⟨hl, k⟩ := Out.P_if q1
  refine ⟨by rw [hx.length]; exact hl, fun p hp => ?_⟩
  have e := Ext.layG (o := .tup vs) r1.gh hp
  exact k _ _ S1 (.ref p) T1 (s1.trans e.g) (r1.ext e) (.tup (.inl upd_same) (hx.mono e.g (fun _ _ q => q) (On.of e.h))) (by simp [D.root]) (t1.ext e fun _ _ m => m)
theorem ge_lstL (h : GL X W es gs) : GE X W (.List es pos) (gLstL gs) := peI (pe_lst h) fun σ H R ⟨G, B, Φ, As, S, ρ, rp, q⟩ => by
  refine ⟨G, B, Φ, As, S, ρ, rp, Out.P_mono (Out.P_bind.mp q) (fun x q1 G1 H1 S1 vs T1 s1 r1 hx t1 => ?_) fun _ z => z⟩
  obtain ⟨hl, k⟩ := Out.P_if q1
  refine ⟨by rw [hx.length]; exact hl, fun p hp => ?_⟩
  have e := Ext.lay (o := .lst vs) r1.gh hp
  obtain ⟨g1, g2, g3⟩ := r1.none_of hp
  refine k _ _ S1 (.ref p) ([p] ++ T1) (s1.trans e.g) (r1.ext e) (.lst (f := .own) upd_same (hx.mono e.g (fun _ _ q => q) (On.of e.h))) (by simp [D.root]) (TOk.app (.one g1 g2 g3 upd_same (by intro _ _ z; cases z)) (t1.ext e fun _ _ m => m) fun a m m' => ?_)
  have : a = p := by simpa using m
  subst this
  obtain ⟨_, _, _, o, z, _⟩ := t1.2 a m'
  rw [hp] at z; cases z
/-- a value is settled -/
def gSt (ga : FG) : FG := fun ρ => (ga ρ).bind fun x => .ok (x.1.fz, x.2)
theorem ge_st (h : GE X W e ga) : GE X W e (gSt ga) := peI h fun σ H R ⟨G, B, Φ, As, S, ρ, rp, q⟩ => by
  refine ⟨G, B, Φ, As, S, ρ, rp, Out.P_mono (Out.P_bind.mp q) (fun x q1 G1 H1 S1 v T1 s1 r1 hx n1 t1 => ?_) fun _ z => z⟩
  have sm : Same G1 (more G1 H1 T1) := more_same fun a m => (t1.2 a m).2.1
  exact q1 _ H1 S1 v [] (s1.trans sm) (r1.more t1) (dat_fz hx fun a m => (t1.2 a m).2.1) (fz_old _) .nil
end

/-! ### a node at a path -/
theorem VRep.upd {K : PySem.W.Frag} {G B Φ H : Hp} {As : List V} {S : Pi → List Addr} {σ : L2.St} {ρ : Plc} {a : Addr} {o : HO} (r : VRep K G B Φ H As S σ ρ) (hS : ∀ i, a ∉ S i) (g : G a = none) (p : Φ a = none) : VRep K G B Φ (L2.upd H a o) As S σ ρ := by
  have ne : ∀ {F : Hp} {b : Addr} {u : HO}, F a = none → F b = some u → b ≠ a := fun h e z => by subst z; rw [h] at e; cases e
  have on : ∀ i, On (S i) H (L2.upd H a o) := fun i b m u e => by rw [upd_ne (by rintro rfl; exact hS i m)]; exact e
  refine ⟨fun b u e => by rw [upd_ne (ne g e)]; exact r.gh b u e, r.bp, fun b u e => by rw [upd_ne (ne p e)]; exact r.ph b u e, r.dis, r.len, r.alen, fun i d q => let ⟨n, v, h1, h2⟩ := r.slot i d q; ⟨n, v, h1, h2.mono (fun _ _ q => q) (fun _ _ q => q) (on _)⟩, r.arg, fun i d q => let ⟨n, v, h1, h2⟩ := r.ar i d q; ⟨n, v, h1, h2.mono (fun _ _ q => q) (fun _ _ q => q) (on _)⟩, r.nd, r.dj, fun i b m => ?_⟩
  obtain ⟨h1, h2, u, h3, h4⟩ := r.fr i b m
  exact ⟨h1, h2, u, on i b m u h3, h4⟩
theorem Plc.put_rm {ρ : Plc} {l : Lc} {d : D} : (ρ.rm l).put l d = ρ.put l d := by
  cases l <;> simp [Plc.rm, Plc.put, Plc.setS, Plc.setA]
theorem node_core {K : PySem.W.Frag} {G B Φ H : Hp} {As : List V} {S : Pi → List Addr} {σ : L2.St} {ρ : Plc} {x : Pt} {d0 : D} {v0 w : V} {a : Addr} {U S2 U' T T' L : List Addr} {e' : D} {o' : HO}
    (r : VRep K G B Φ H As S σ ρ) (hg : ρ.get x.l = some d0) (ha : x.l.At σ As v0) (hp : (S x.l.pi).Perm ((a :: U) ++ S2))
    (zk : ∀ (G' B' H' : Hp) (T : List Addr) (e' : D), Same G G' → Same B B' → On S2 H H' → Dat K G' B' H' T w e' → e'.old → (x.put e').old ∧ ∃ S', S'.Perm (T ++ S2) ∧ Dat K G' B' H' S' v0 (x.put e'))
    (t : TOk T S G Φ H) (pm : (U' ++ T' ++ L).Perm (U ++ T)) (fo : HO.free o') (hd : (∀ a' ∈ U', a' ≠ a) → Dat K G B (L2.upd H a o') (a :: U') w e') (n : e'.old) :
    ∃ S', VRep K G B Φ (L2.upd H a o') As S' σ (ρ.put x.l (x.put e')) ∧ TOk T' S' G Φ (L2.upd H a o') ∧ (∀ a' ∈ T', a' ≠ a) := by
  obtain ⟨v1, a1, a2, a3, r1, t1⟩ := r.takeL hg
  have := Lc.at_eq ha a1
  subst this
  have mem : ∀ b, b ∈ (a :: U) ++ S2 → b ∈ S x.l.pi := fun b m => hp.symm.subset m
  have aS : a ∈ S x.l.pi := mem a (by simp)
  have nd0 : ((a :: U) ++ S2 ++ T).Nodup := List.nodup_append.mpr ⟨hp.nodup (r.nd _), t.1, fun b m c m' e => by subst e; exact (t.2 b m').1 _ (mem b m)⟩
  have nd1 : ((a :: (U' ++ T' ++ L)) ++ S2).Nodup := by
    refine List.Perm.nodup ?_ nd0
    have h1 : ((a :: U) ++ S2 ++ T).Perm ((a :: (U ++ T)) ++ S2) := by
      simp only [List.cons_append, List.append_assoc]
      exact (List.Perm.append_left U (List.perm_append_comm)).cons a
    exact h1.trans (((pm.symm).cons a).append_right S2)
  have sub : ∀ b, b ∈ U' ++ T' ++ L → b ∈ S x.l.pi ∨ b ∈ T := fun b m => by
    rcases List.mem_append.mp (pm.subset m) with m | m
    · exact .inl (mem b (by simp [m]))
    · exact .inr m
  simp only [List.cons_append, List.nodup_cons, List.append_assoc, List.nodup_append] at nd1
  obtain ⟨k0, k1, ⟨k2, ⟨k3, k4, k5⟩, k6⟩, k7⟩ := nd1
  have naU : ∀ b ∈ U', b ≠ a := fun b m e => k0 (by subst e; simp [m])
  have naT : ∀ b ∈ T', b ≠ a := fun b m e => k0 (by subst e; simp [m])
  have naS2 : a ∉ S2 := fun m => k0 (by simp [m])
  have gp : G a = none ∧ Φ a = none := ⟨(t1.2 a aS).2.1, (t1.2 a aS).2.2.1⟩
  have r2 : VRep K G B Φ (L2.upd H a o') As _ σ (ρ.rm x.l) := r1.upd (fun i => (t1.2 a aS).1 i) gp.1 gp.2
  obtain ⟨m1, S', q, hS'⟩ := zk G B (L2.upd H a o') (a :: U') e' (fun _ _ e => e) (fun _ _ e => e) (fun b m u e => by rw [upd_ne (by rintro rfl; exact naS2 m)]; exact e) (hd naU) n
  have okb : ∀ b, (b ∈ S x.l.pi ∨ b ∈ T) → (∀ i, b ∉ setS S x.l.pi [] i) ∧ G b = none ∧ Φ b = none ∧ ∃ o, (L2.upd H a o') b = some o ∧ HO.free o := fun b m => by
    have h0 : (∀ i, b ∉ setS S x.l.pi [] i) ∧ G b = none ∧ Φ b = none ∧ ∃ o, H b = some o ∧ HO.free o := by
      rcases m with m | m
      · exact t1.2 b m
      · obtain ⟨h1, h2⟩ := t.2 b m
        refine ⟨fun i z => ?_, h2⟩
        by_cases hi : i = x.l.pi
        · subst hi; rw [setS_same] at z; cases z
        · rw [setS_ne hi] at z; exact h1 i z
    obtain ⟨h1, h2, h3, u, h4, h5⟩ := h0
    refine ⟨h1, h2, h3, ?_⟩
    by_cases e : b = a
    · subst e; exact ⟨o', upd_same, fo⟩
    · exact ⟨u, by rw [upd_ne e]; exact h4, h5⟩
  have tS : TOk S' (setS S x.l.pi []) G Φ (L2.upd H a o') := by
    refine ⟨q.symm.nodup ?_, fun b m => okb b ?_⟩
    · simp only [List.cons_append, List.nodup_cons, List.nodup_append, List.mem_append]
      exact ⟨fun m => k0 (by rcases m with m | m <;> simp [m]), k1, k4, fun b m c m' e => k7 b m c (by simp [m']) e⟩
    · have := q.subset m
      simp only [List.cons_append, List.mem_cons, List.mem_append] at this
      rcases this with rfl | m | m
      · exact .inl aS
      · exact sub b (by simp [m])
      · exact .inl (mem b (by simp [m]))
  have r3 := r2.putL ha hS' m1 tS
  rw [Plc.put_rm] at r3
  refine ⟨_, r3, ⟨?_, fun b m => ?_⟩, naT⟩
  · exact k2
  · obtain ⟨h1, h2⟩ := okb b (sub b (by simp [m]))
    refine ⟨fun i z => ?_, h2⟩
    by_cases hi : i = x.l.pi
    · subst hi
      rw [setS_same] at z
      have := q.subset z
      simp only [List.cons_append, List.mem_cons, List.mem_append] at this
      rcases this with rfl | z | z
      · exact naT _ m rfl
      · exact k7 b z b (by simp [m]) rfl
      · exact k6 b m b (by simp [z]) rfl
    · rw [setS_ne hi] at z; exact h1 i z
end VL

/-! VLx: lists and dicts changed. -/
namespace VL
open PySem PySem.Spec PyProof.Rows L2

/-! ### lists of quiet values that come to be owned -/
abbrev FMq := Plc → Out Exn (List D)
def upMq (K : PySem.W.Frag) (W : WX) (f : FMq) : TA := fun σ H R => ∃ (G B Φ : Hp) (As : List V) (S : Pi → List Addr) (ρ : Plc), VRep K G B Φ H As S σ ρ ∧
  (f ρ).P (fun ds => ∀ G' H' vs T, Ext G H G' H' → Dats K G' B H' T vs ds → TOk T S G' Φ H' → (∀ a ∈ T, H a = none) → R vs H') (EX K W G B H σ)
abbrev MQ (X : Cx) (W : WX) (es : List Expr) (f : FMq) : Prop := PA X es (upMq X.K W f)
def mqNil : FMq := fun _ => .ok []
def mqCons (f : FQ) (m : FMq) : FMq := fun ρ => (f ρ).bind fun d => if d.free = true then (m ρ).bind fun ds => .ok (d.up :: ds) else .no
theorem up_new {K : PySem.W.Frag} {G B Φ H G1 H1 : Hp} {As : List V} {S : Pi → List Addr} {σ : L2.St} {ρ : Plc} {v : V} {d : D} (r : VRep K G B Φ H As S σ ρ) (e : Ext G H G1 H1) (hd : Dt K G1 B H1 v d) (fr : Fresh H G1 v d) (hf : d.free = true) : ∃ T, Dat K G1 B H1 T v d.up ∧ TOk T S G1 Φ H1 ∧ ∀ a ∈ T, H a = none := by
  obtain ⟨T, h1, h2⟩ := up_dat r e hd fr hf
  refine ⟨T, h1, h2, fun a m => ?_⟩
  by_cases ho : d.old
  · rw [up_id ho] at h1
    rw [free_id ho] at hf
    have := h1.noS hf
    subst this; cases m
  · have hr : d.root = some .new := by simpa using ho
    obtain ⟨p, rfl, a1, a2⟩ := fr hr
    have key : ∀ {U : List Addr}, U = [] → a ∈ Fl.ad .own p ++ U → H a = none := fun {U} e q => by
      subst e
      have : a = p := by simpa [Fl.ad] using q
      subst this; exact a1
    cases d with
    | lst f xs => cases hr; cases h1 with | lst n hs => exact key (Dats.noS hs (by simpa only [D.free] using hf)) m
    | dic f xs => cases hr; cases h1 with | dic n hs => exact key (DatM.noS hs (by simpa only [D.free] using hf)) m
    | dit f xs => cases hr; cases h1 with | dit n hs => exact key (DatM.noS hs (by simpa only [D.free] using hf)) m
    | obj f C xs => cases hr; cases h1 with | obj n hs => exact key (DatM.noS hs (by simpa only [D.free] using hf)) m
    | _ => cases hr
section
variable {X : Cx} {W : WX} {e o i : Expr} {es : List Expr} {f : FQ} {m : FMq}
theorem mq_nil : MQ X W [] mqNil := paI pa_nil fun σ H R ⟨G, B, Φ, As, S, ρ, r, q⟩ => q G H [] [] (Ext.refl r.gh) .nil .nil fun a m => by cases m
theorem mq_cons (ha : QE X W e f) (hr : MQ X W es m) (hs : starEach (e :: es) X.env = (false, eval e X.env) :: starEach es X.env := by rfl) : MQ X W (e :: es) (mqCons f m) :=
  paI (pa_cons ha hr hs) fun σ H R ⟨G, B, Φ, As, S, ρ, r, q⟩ => upQ_bind r.so q fun d G1 H1 v e1 hd fr q1 => by
    obtain ⟨hf, q1⟩ := Out.P_ifn q1
    obtain ⟨T1, h1, t1, n1⟩ := up_new r e1 hd fr hf
    refine ⟨G1, B, Φ, As, S, ρ, r.ext e1, Out.P_mono (Out.P_bind.mp q1) (fun ds q2 G2 H2 vs T2 e2 hds t2 n2 => ?_) fun _ z => EX.ext e1 z⟩
    refine q2 G2 H2 (v :: vs) (T1 ++ T2) (e1.trans e2) (.cons (up_old d) (h1.mono e2.g (fun _ _ q => q) (On.of e2.h)) hds) (TOk.app (t1.ext e2 fun _ _ m => m) t2 fun a ma ma' => ?_) fun a ma => ?_
    · obtain ⟨_, _, _, u, z, _⟩ := t1.2 a ma
      rw [n2 a ma'] at z; cases z
    · rcases List.mem_append.mp ma with ma | ma
      · exact n1 a ma
      · exact Same.free e1.h (n2 a ma)
end

/-! ### methods that change a list -/
structure RML (r : V → List V → Hp → VK → Prop) (f : List D → List D → Option (List D × D)) : Prop where
  go : ∀ {K : PySem.W.Frag} {G B H : Hp} {a : Addr} {vs xs : List V} {ds es : List D} {U T : List Addr} {x : List D × D} {R : VK}, Same G H → Same B H → H a = some (.lst vs) → Dats K G B H U vs ds → Dats K G B H T xs es → f ds es = some x →
    (∀ vs' v U' T' L, (U' ++ T' ++ L).Perm (U ++ T) → Dats K G B H U' vs' x.1 → Dat K G B H T' v x.2 → x.2.old → R v (upd H a (.lst vs'))) → r (.ref a) xs H R
theorem free_lst {vs : List V} : HO.free (.lst vs) := fun _ _ z => by cases z
theorem lm_core {K : PySem.W.Frag} {G0 G B Φ H : Hp} {As : List V} {S : Pi → List Addr} {σ : L2.St} {ρ : Plc} {x : Pt} {d0 : D} {v0 w : V} {ds ds' es : List D} {xs : List V} {d : D} {T : List Addr} {R : VK} {r : V → List V → Hp → VK → Prop} {f : List D → List D → Option (List D × D)}
    (hr : RML r f) (rp : VRep K G B Φ H As S σ ρ) (s0 : Same G0 G) (hg : ρ.get x.l = some d0) (ha : x.l.At σ As v0) (he : x.e = .lst .own ds) (z : Zip K G B H (S x.l.pi) v0 w x.e x.put) (hx : Dats K G B H T xs es) (t : TOk T S G Φ H) (hf : f ds es = some (ds', d))
    (k : GK K G0 B Φ As σ R (d, ρ.put x.l (x.put (.lst .own ds')))) : r w xs H R := by
  obtain ⟨S1, S2, hp, hd, n, zk⟩ := z.ex
  rw [he] at hd
  cases hd with
  | @lst U _ a vs _ nd hs =>
    refine hr.go rp.gh (bh_of rp) nd hs hx hf fun vs' v U' T' L pm h1 h2 h3 => ?_
    obtain ⟨S', r', t', nT⟩ := node_core (U := U) (U' := U') (T' := T') (L := L) (e' := .lst .own ds') (o' := .lst vs') rp hg ha hp zk t pm free_lst (fun na => .lst (f := .own) upd_same (h1.mono (fun _ _ q => q) (fun _ _ q => q) fun b m u e => by rw [upd_ne (na b m)]; exact e)) (by simp [D.root])
    exact k G _ S' v T' s0 r' (h2.mono (fun _ _ q => q) (fun _ _ q => q) fun b m u e => by rw [upd_ne (nT b m)]; exact e) h3 t'
def fAppend (ds es : List D) : Option (List D × D) := match es with
  | [d] => if ds.length < sizeLine then some (ds ++ [d], .non) else none
  | _ => none
theorem Dats.app {K : PySem.W.Frag} {G B H : Hp} : ∀ {U T : List Addr} {vs ws : List V} {ds es : List D}, Dats K G B H U vs ds → Dats K G B H T ws es → Dats K G B H (U ++ T) (vs ++ ws) (ds ++ es)
  | _, _, _, _, _, _, .nil, h => h
  | _, _, _, _, _, _, .cons n h t, h' => by
    have := Dats.cons n h (Dats.app t h')
    rwa [← List.append_assoc] at this
theorem dats1 {K : PySem.W.Frag} {G B H : Hp} {T : List Addr} {xs : List V} {d : D} (h : Dats K G B H T xs [d]) : ∃ v, xs = [v] ∧ d.old ∧ Dat K G B H T v d := by
  cases h with
  | cons n h t => cases t; exact ⟨_, rfl, n, by simpa using h⟩
theorem dats2 {K : PySem.W.Frag} {G B H : Hp} {T : List Addr} {xs : List V} {d e : D} (h : Dats K G B H T xs [d, e]) : ∃ v w T1 T2, xs = [v, w] ∧ T = T1 ++ T2 ∧ d.old ∧ Dat K G B H T1 v d ∧ e.old ∧ Dat K G B H T2 w e := by
  cases h with
  | cons n h t =>
    obtain ⟨w, rfl, n2, h2⟩ := dats1 t
    exact ⟨_, w, _, _, rfl, rfl, n, h, n2, h2⟩
theorem dat_int {K : PySem.W.Frag} {G B H : Hp} {T : List Addr} {v : V} {i : Int} (h : Dat K G B H T v (.int i)) : v = .int i ∧ T = [] := by cases h; exact ⟨rfl, rfl⟩
theorem rm_append : RML rAppend fAppend := ⟨fun {K G B H a vs xs ds es U T x R} gh bh hH hs hx hf k => by
  unfold fAppend at hf
  split at hf
  · rename_i d
    by_cases hl : ds.length < sizeLine
    · rw [if_pos hl] at hf
      cases hf
      obtain ⟨v, rfl, n, hv⟩ := dats1 hx
      exact ⟨a, vs, v, rfl, rfl, hH, by rw [hs.length]; exact hl, k _ _ (U ++ T) [] [] (by simp) (hs.app hx) .non (by simp [D.root])⟩
    · rw [if_neg hl] at hf; cases hf
  · cases hf⟩
def fClear (ds es : List D) : Option (List D × D) := match es with
  | [] => some ([], .non)
  | _ => none
theorem rm_clear : RML rClear fClear := ⟨fun {K G B H a vs xs ds es U T x R} gh bh hH hs hx hf k => by
  unfold fClear at hf
  split at hf
  · cases hf
    cases hx
    exact ⟨a, vs, rfl, rfl, hH, k _ _ [] [] U (by simp) .nil .non (by simp [D.root])⟩
  · cases hf⟩
theorem Dats.split {K : PySem.W.Frag} {G B H : Hp} : ∀ (n : Nat) {U : List Addr} {vs : List V} {ds : List D}, Dats K G B H U vs ds → ∃ U1 U2, U = U1 ++ U2 ∧ Dats K G B H U1 (vs.take n) (ds.take n) ∧ Dats K G B H U2 (vs.drop n) (ds.drop n)
  | 0, U, _, _, h => ⟨[], U, rfl, by simpa using .nil, h⟩
  | _ + 1, _, _, _, .nil => ⟨[], [], rfl, .nil, .nil⟩
  | n + 1, _, _, _, .cons (S := S0) nn h t => by
    obtain ⟨U1, U2, rfl, h1, h2⟩ := Dats.split n t
    exact ⟨S0 ++ U1, U2, by simp, .cons nn h h1, h2⟩
def fInsert (ds es : List D) : Option (List D × D) := match es with
  | [.int i, d] => if ds.length < sizeLine ∧ 0 ≤ i ∧ i < 2 ^ 63 then some (ds.take i.toNat ++ [d] ++ ds.drop i.toNat, .non) else none
  | _ => none
theorem rm_insert : RML (fun x vs H Q => ∃ (l : Addr) (xs : List V) (i : Int) (y : V), x = .ref l ∧ vs = [.int i, y] ∧ H l = some (.lst xs) ∧ xs.length < sizeLine ∧ 0 ≤ i ∧ i < 2 ^ 63 ∧
    Q .non (upd H l (.lst (xs.take i.toNat ++ [y] ++ xs.drop i.toNat)))) fInsert := ⟨fun {K G B H a vs xs ds es U T x R} gh bh hH hs hx hf k => by
  unfold fInsert at hf
  split at hf
  · rename_i i d
    by_cases hl : ds.length < sizeLine ∧ 0 ≤ i ∧ i < 2 ^ 63
    · rw [if_pos hl] at hf
      cases hf
      obtain ⟨v, w, T1, T2, rfl, rfl, n1, h1, n2, h2⟩ := dats2 hx
      obtain ⟨rfl, rfl⟩ := dat_int h1
      obtain ⟨U1, U2, rfl, g1, g2⟩ := Dats.split i.toNat hs
      refine ⟨a, vs, i, w, rfl, rfl, hH, by rw [hs.length]; exact hl.1, hl.2.1, hl.2.2, k _ _ ((U1 ++ T2) ++ U2) [] [] ?_ ((g1.app (by simpa using Dats.cons n2 h2 .nil)).app g2) .non (by simp [D.root])⟩
      simp only [List.append_nil, List.nil_append, List.append_assoc]
      exact List.Perm.append_left U1 List.perm_append_comm
    · rw [if_neg hl] at hf; cases hf
  · cases hf⟩
def fPop (ds es : List D) : Option (List D × D) := match es with
  | [] => (ds[ds.length - 1]?).map fun d => (ds.dropLast, d)
  | _ => none
theorem rm_pop : RML rPop fPop := ⟨fun {K G B H a vs xs ds es U T x R} gh bh hH hs hx hf k => by
  unfold fPop at hf
  split at hf
  · cases hx
    obtain ⟨d, hd, rfl⟩ := Option.map_eq_some_iff.mp hf
    obtain ⟨U1, U2, rfl, g1, g2⟩ := Dats.split (ds.length - 1) hs
    have hl : ds.length - 1 < ds.length := (List.getElem?_eq_some_iff.mp hd).1
    have e1 : ds.drop (ds.length - 1) = [d] := by
      rw [List.drop_eq_getElem_cons hl, List.drop_of_length_le (by omega)]
      rw [List.getElem?_eq_getElem hl] at hd
      cases hd; rfl
    have hv : vs.length = ds.length := hs.length
    rw [e1] at g2
    obtain ⟨v, e2, n, h2⟩ := dats1 g2
    have hv2 : vs[vs.length - 1]? = some v := by
      rw [hv]
      have := congrArg (fun l => l[0]?) e2
      simpa using this
    refine ⟨a, vs, v, rfl, rfl, hH, hv2, k _ _ U1 U2 [] (by simp) ?_ h2 n⟩
    rw [List.dropLast_eq_take, List.dropLast_eq_take, hv]
    exact g1
  · cases hf⟩
def fRev (ds es : List D) : Option (List D × D) := match es with
  | [] => some (ds.reverse, .non)
  | _ => none
theorem Dats.rev {K : PySem.W.Frag} {G B H : Hp} : ∀ {U : List Addr} {vs : List V} {ds : List D}, Dats K G B H U vs ds → ∃ U', U'.Perm U ∧ Dats K G B H U' vs.reverse ds.reverse
  | _, _, _, .nil => ⟨[], .refl _, .nil⟩
  | _, _, _, .cons (S := S0) n h t => by
    obtain ⟨U', p, r⟩ := Dats.rev t
    refine ⟨U' ++ S0, (p.append_right S0).trans List.perm_append_comm, ?_⟩
    rw [List.reverse_cons, List.reverse_cons]
    exact r.app (by simpa using Dats.cons n h .nil)
theorem rm_rev : RML rReverse fRev := ⟨fun {K G B H a vs xs ds es U T x R} gh bh hH hs hx hf k => by
  unfold fRev at hf
  split at hf
  · cases hf
    cases hx
    obtain ⟨U', p, h⟩ := hs.rev
    exact ⟨a, vs, rfl, rfl, hH, k _ _ U' [] [] (by simpa using p) h .non (by simp [D.root])⟩
  · cases hf⟩
def fExtend (ds es : List D) : Option (List D × D) := match es with
  | [.lst f ys] => if f ≠ .loc ∧ D.allFL ownF ys = true ∧ ds.length + ys.length ≤ sizeLine then some (ds ++ ys, .non) else none
  | _ => none
theorem rm_extend : RML rExtend fExtend := ⟨fun {K G B H a vs xs ds es U T x R} gh bh hH hs hx hf k => by
  unfold fExtend at hf
  split at hf
  · rename_i f ys
    by_cases hl : f ≠ .loc ∧ D.allFL ownF ys = true ∧ ds.length + ys.length ≤ sizeLine
    · rw [if_pos hl] at hf
      cases hf
      obtain ⟨v, rfl, n, hv⟩ := dats1 hx
      cases hv with
      | lok _ _ => exact absurd rfl hl.1
      | @lst S' _ p ws _ nd hw =>
        have := Dats.noS hw hl.2.1
        subst this
        exact ⟨a, p, vs, ws, rfl, rfl, hH, nd.here gh bh, by rw [hs.length, hw.length]; exact hl.2.2, k _ _ (U ++ []) [] (f.ad p ++ []) (by simp) (hs.app hw) .non (by simp [D.root])⟩
    · rw [if_neg hl] at hf; cases hf
  · cases hf⟩
/-- xs.m(..), xs a name -/
def gLm (f : List D → List D → Option (List D × D)) (i : Nat) (gs : FL) : FG := fun ρ => match look ρ i with
  | some (.lst _ _) => (gs ρ).bind fun x => match pNm i x.2 with
    | .ok ⟨l, .lst .own ds, put⟩ => (match f ds x.1 with
      | some (ds', d) => .ok (d, x.2.put l (put (.lst .own ds')))
      | none => .no)
    | _ => .no
  | _ => .no
/-- .. a path; the arguments are quiet -/
def gLmP (f : List D → List D → Option (List D × D)) (fp : FP) (m : FMq) : FG := fun ρ => match fp ρ with
  | .ok ⟨l, .lst .own ds, put⟩ => (match m ρ with
    | .ok es => (match f ds es with
      | some (ds', d) => .ok (d, ρ.put l (put (.lst .own ds')))
      | none => .no)
    | .ex x => .ex (x, ρ)
    | .no => .no)
  | .ex x => .ex (x, ρ)
  | _ => .no
section
variable {X : Cx} {W : WX} {e o i : Expr} {es : List Expr} {gs : FL} {m : FMq} {fp : FP} {pos p apos cpos : Pos} {name x : Str} {id T : String} {r : V → List V → Hp → VK → Prop} {f : List D → List D → Option (List D × D)}
theorem lm_name {K : PySem.W.Frag} {σ : L2.St} {H : Hp} {R : VK} {n : Nat} (hr : RML r f) {G0 G B Φ : Hp} {As : List V} {S : Pi → List Addr} {ρ : Plc} {xs : List V} {es : List D} {T : List Addr} {v : V} (rp : VRep K G B Φ H As S σ ρ) (s0 : Same G0 G) (hv : σ[n]? = some (some v)) (hx : Dats K G B H T xs es) (t : TOk T S G Φ H)
    (q : (match pNm n ρ with
      | .ok ⟨l, .lst .own ds, put⟩ => (match f ds es with
        | some (ds', d) => Out.ok (d, ρ.put l (put (.lst .own ds')))
        | none => .no)
      | _ => .no : Out (Exn × Plc) (D × Plc)).P (GK K G0 B Φ As σ R) (GX K W G0 B Φ As σ)) : r v xs H R := by
  unfold pNm at q
  cases hl : ρ.lc n with
  | none => rw [hl] at q; exact q.elim
  | some l =>
    rw [hl] at q
    simp only at q
    cases hg : ρ.get l with
    | none => rw [hg] at q; exact q.elim
    | some d =>
      rw [hg] at q
      simp only at q
      obtain ⟨v1, h1, h2⟩ := rp.lc_at hl
      rw [hv] at h1
      cases h1
      obtain ⟨v', a1, a2, a3, _, _⟩ := rp.takeL hg
      have := Lc.at_eq h2 a1
      subst this
      split at q
      · rename_i l' ds put heq
        cases heq
        cases hf : f ds es with
        | none => rw [hf] at q; exact q.elim
        | some y =>
          rw [hf] at q
          exact lm_core (x := ⟨l, .lst .own ds, id⟩) hr rp s0 hg h2 rfl (.refl a3 a2) hx t hf q
      · exact q.elim
theorem lst_ty {K : PySem.W.Frag} {G B H : Hp} {v : V} {f : Fl} {ds : List D} (gh : Same G H) (bh : Same B H) (h : Dt K G B H v (.lst f ds)) : tyV K "list" v H := by
  obtain ⟨p, vs, rfl, hp, _⟩ := dt_lst gh bh h
  exact .inl ⟨rfl, vs, hp⟩
theorem ge_lm (slot : Slot "list" name id) (hty : typeOf (.builtin id) = pure (.type "method_descriptor")) (hm : MtR X id r) (hr : RML r f) (n : Nat) (ha : GL X W (e :: es) gs)
    (hN : X.N[n]? = some x := by rfl) (hv : Vis X.env.scope x := by first | exact Or.inl rfl | exact Or.inr (Or.inl rfl) | exact Or.inr (Or.inr rfl)) (hd : (x == ("__debug__" : Str)) = false := by decide) (hcd : (x == ("__classdict__" : Str)) = false := by decide)
    (hbase : attributeBase (.Name x p) name X.env (eval (.Name x p) X.env) = eval (.Name x p) X.env := by rfl)
    (hfew : ((backTo cpos (starEach (e :: es) X.env)).all (fun x => !x.1) && (backToKw cpos (keywordEach [] X.env)).all (fun x => x.1.isSome)
      && decide ((e :: es).length + ([] : List Keyword).length + (if ([] : List Keyword).isEmpty then 0 else 1) < 30)) = true := by rfl)
    (hline : (apos.endLine == cpos.line) = true := by rfl) (hs : starEach (e :: es) X.env = (false, eval e X.env) :: starEach es X.env := by rfl) (hplain : (backTo cpos (starEach es X.env)).any (·.1) = false := by rfl) :
    GE X W (.Call (.Attribute (.Name x p) name apos) (e :: es) [] cpos) (gLm f n gs) := peI (pe_bm PySem.F.plainAttrs_list slot hty hm (pe_var hN hv hd hcd) ha hbase hfew hline hs hplain) fun σ H R ⟨G, B, Φ, As, S, ρ, rp, q⟩ => by
  unfold gLm at q
  split at q
  · rename_i fl ds0 hl
    obtain ⟨_, v, h1, h2⟩ := rp.so.look hl
    refine ⟨v, h1, lst_ty rp.gh (bh_of rp) h2, G, B, Φ, As, S, ρ, rp, Out.P_mono (Out.P_bind.mp q) (fun y q1 G1 H1 S1 vs T1 s1 r1 hx t1 => ?_) fun _ z => z⟩
    exact lm_name (W := W) hr r1 s1 h1 hx t1 q1
  · exact q.elim
theorem ge_lm0 (slot : Slot "list" name id) (hty : typeOf (.builtin id) = pure (.type "method_descriptor")) (hm : MtR X id r) (hr : RML r f) (n : Nat)
    (hN : X.N[n]? = some x := by rfl) (hv : Vis X.env.scope x := by first | exact Or.inl rfl | exact Or.inr (Or.inl rfl) | exact Or.inr (Or.inr rfl)) (hd : (x == ("__debug__" : Str)) = false := by decide) (hcd : (x == ("__classdict__" : Str)) = false := by decide)
    (hbase : attributeBase (.Name x p) name X.env (eval (.Name x p) X.env) = eval (.Name x p) X.env := by rfl) (hline : (apos.endLine == cpos.line) = true := by rfl) :
    GE X W (.Call (.Attribute (.Name x p) name apos) [] [] cpos) (gLm f n lNil) := peI (pe_bm0 PySem.F.plainAttrs_list slot hty hm (pe_var hN hv hd hcd) hbase hline) fun σ H R ⟨G, B, Φ, As, S, ρ, rp, q⟩ => by
  unfold gLm at q
  split at q
  · rename_i fl ds0 hl
    obtain ⟨_, v, h1, h2⟩ := rp.so.look hl
    exact ⟨v, h1, lst_ty rp.gh (bh_of rp) h2, lm_name (W := W) hr rp (fun _ _ e => e) h1 .nil .nil q⟩
  · exact q.elim
theorem path_ty {K : PySem.W.Frag} {G B H : Hp} {S : List Addr} {v w : V} {f : Fl} {ds : List D} {put : D → D} (gh : Same G H) (bh : Same B H) (z : Zip K G B H S v w (.lst f ds) put) : tyV K "list" w H := by
  obtain ⟨S1, S2, _, h, _, _⟩ := z.ex
  exact lst_ty gh bh ⟨_, h⟩
theorem ge_lmP (slot : Slot "list" name id) (hty : typeOf (.builtin id) = pure (.type "method_descriptor")) (hm : MtR X id r) (hr : RML r f) (ho : PP X W o fp) (ha : MQ X W (e :: es) m)
    (hbase : attributeBase o name X.env (eval o X.env) = eval o X.env := by rfl)
    (hfew : ((backTo cpos (starEach (e :: es) X.env)).all (fun x => !x.1) && (backToKw cpos (keywordEach [] X.env)).all (fun x => x.1.isSome)
      && decide ((e :: es).length + ([] : List Keyword).length + (if ([] : List Keyword).isEmpty then 0 else 1) < 30)) = true := by rfl)
    (hline : (apos.endLine == cpos.line) = true := by rfl) (hs : starEach (e :: es) X.env = (false, eval e X.env) :: starEach es X.env := by rfl) (hplain : (backTo cpos (starEach es X.env)).any (·.1) = false := by rfl) :
    GE X W (.Call (.Attribute o name apos) (e :: es) [] cpos) (gLmP f fp m) := peI (pe_bm PySem.F.plainAttrs_list slot hty hm ho ha hbase hfew hline hs hplain) fun σ H R ⟨G, B, Φ, As, S, ρ, rp, q⟩ => by
  unfold gLmP at q
  refine ⟨G, B, Φ, As, S, ρ, rp, ?_⟩
  cases hf : fp ρ with
  | no => rw [hf] at q; exact q.elim
  | ex x => rw [hf] at q; exact EX.of rp q
  | ok x =>
    rw [hf] at q
    split at q
    · rename_i l ds put heq
      cases heq
      intro G1 H1 w e1 pr
      obtain ⟨d0, v0, a1, a2, z⟩ := pr.ex
      have r1 := rp.ext e1
      refine ⟨path_ty r1.gh (bh_of r1) z, G1, B, Φ, As, S, ρ, r1, ?_⟩
      cases hm2 : m ρ with
      | no => rw [hm2] at q; exact q.elim
      | ex x => rw [hm2] at q; exact EX.ext e1 (EX.of rp q)
      | ok es' =>
        rw [hm2] at q
        intro G2 H2 vs T e2 hx t n
        cases hf2 : f ds es' with
        | none => simp only [hf2] at q; exact q.elim
        | some y =>
          simp only [hf2] at q
          exact lm_core (x := ⟨l, .lst .own ds, put⟩) hr (r1.ext e2) (e1.trans e2).g a1 a2 rfl (z.ext e2) hx t hf2 q
    · rename_i heq; cases heq
    · exact q.elim
theorem ge_lmP0 (slot : Slot "list" name id) (hty : typeOf (.builtin id) = pure (.type "method_descriptor")) (hm : MtR X id r) (hr : RML r f) (ho : PP X W o fp)
    (hbase : attributeBase o name X.env (eval o X.env) = eval o X.env := by rfl) (hline : (apos.endLine == cpos.line) = true := by rfl) :
    GE X W (.Call (.Attribute o name apos) [] [] cpos) (gLmP f fp mqNil) := peI (pe_bm0 PySem.F.plainAttrs_list slot hty hm ho hbase hline) fun σ H R ⟨G, B, Φ, As, S, ρ, rp, q⟩ => by
  unfold gLmP at q
  refine ⟨G, B, Φ, As, S, ρ, rp, ?_⟩
  cases hf : fp ρ with
  | no => rw [hf] at q; exact q.elim
  | ex x => rw [hf] at q; exact EX.of rp q
  | ok x =>
    rw [hf] at q
    split at q
    · rename_i l ds put heq
      cases heq
      intro G1 H1 w e1 pr
      obtain ⟨d0, v0, a1, a2, z⟩ := pr.ex
      have r1 := rp.ext e1
      refine ⟨path_ty r1.gh (bh_of r1) z, ?_⟩
      simp only [mqNil] at q
      cases hf2 : f ds [] with
      | none => simp only [hf2] at q; exact q.elim
      | some y =>
        simp only [hf2] at q
        exact lm_core (x := ⟨l, .lst .own ds, put⟩) hr r1 e1.g a1 a2 rfl z .nil .nil hf2 q
    · rename_i heq; cases heq
    · exact q.elim
end
end VL

/-! VLy: stores; instances made. -/
namespace VL
open PySem PySem.Spec PyProof.Rows L2

theorem Dats.put {K : PySem.W.Frag} {G B H : Hp} {T : List Addr} {v : V} {d : D} (n : d.old) (hd : Dat K G B H T v d) : ∀ {U : List Addr} {vs : List V} {ds : List D} {j : Nat}, Dats K G B H U vs ds → j < ds.length → ∃ U' L, (U' ++ L).Perm (U ++ T) ∧ Dats K G B H U' (vs.set j v) (ds.set j d)
  | _, _, _, j, .nil, h => by simp at h
  | _, _, _, 0, .cons (S := S0) (T := T0) nn h t, _ => ⟨T ++ T0, S0, by
      have : (T ++ T0 ++ S0).Perm (S0 ++ (T ++ T0)) := List.perm_append_comm
      exact this.trans (by rw [List.append_assoc]; exact (List.perm_append_comm).append_left S0), .cons n hd t⟩
  | _, _, _, j + 1, .cons (S := S0) (T := T0) nn h t, hl => by
    obtain ⟨U', L, p, r⟩ := Dats.put n hd t (by simpa using hl)
    exact ⟨S0 ++ U', L, by rw [List.append_assoc, List.append_assoc]; exact p.append_left S0, .cons nn h r⟩
theorem DatM.app {K : PySem.W.Frag} {G B H : Hp} : ∀ {U T : List Addr} {vs ws : List (Kd × V)} {ds es : List (Kd × D)}, DatM K G B H U vs ds → DatM K G B H T ws es → DatM K G B H (U ++ T) (vs ++ ws) (ds ++ es)
  | _, _, _, _, _, _, .nil, h => h
  | _, _, _, _, _, _, .cons (k := k) n h t, h' => by
    have := DatM.cons (k := k) n h (DatM.app t h')
    rwa [← List.append_assoc] at this
/-- a value owning nothing at a key that is there -/
theorem DatM.swap {K : PySem.W.Frag} {G B H : Hp} {κ : Type} [DecidableEq κ] {f : κ → Kd} (hf : ∀ a b, f a = f b → a = b) {k : κ} {v : V} {d : D} (n : d.old) (hd : Dat K G B H [] v d) : ∀ {U : List Addr} {vs : List (κ × V)} {ds : List (Kd × D)}, DatM K G B H U (vs.map fun e => (f e.1, e.2)) ds → ∃ U' L, (U' ++ L).Perm U ∧ DatM K G B H U' ((vs.map fun e => if e.1 = k then (e.1, v) else e).map fun e => (f e.1, e.2)) (ds.map fun e => if e.1 = f k then (e.1, d) else e)
  | _, [], _, h => by cases h; exact ⟨[], [], .refl _, .nil⟩
  | _, (k0, v0) :: vs, _, h => by
    simp only [List.map_cons] at h
    cases h with
    | @cons S0 T0 _ _ d0 _ ds nn h t =>
      obtain ⟨U', L, p, r⟩ := DatM.swap (k := k) hf n hd t
      by_cases e : k0 = k
      · subst e
        refine ⟨U', L ++ S0, ?_, ?_⟩
        · rw [← List.append_assoc]
          exact (p.append_right S0).trans List.perm_append_comm
        · simp only [List.map_cons, if_true]
          exact DatM.cons (S := []) n hd r
      · refine ⟨S0 ++ U', L, by rw [List.append_assoc]; exact p.append_left S0, ?_⟩
        have e2 : ¬ f k0 = f k := fun z => e (hf _ _ z)
        simp only [List.map_cons, if_neg e, if_neg e2]
        exact .cons nn h r
theorem datm_any {K : PySem.W.Frag} {G B H : Hp} {κ : Type} [DecidableEq κ] {f : κ → Kd} (hf : ∀ a b, f a = f b → a = b) {k : κ} : ∀ {U : List Addr} {vs : List (κ × V)} {ds : List (Kd × D)}, DatM K G B H U (vs.map fun e => (f e.1, e.2)) ds → (vs.any fun e => decide (e.1 = k)) = ds.any fun e => decide (e.1 = f k)
  | _, [], _, h => by cases h; rfl
  | _, (k0, v0) :: vs, _, h => by
    simp only [List.map_cons] at h
    cases h with
    | cons nn h t =>
      have := datm_any hf (k := k) t
      simp only [List.any_cons, this]
      congr 1
      by_cases e : k0 = k
      · subst e; simp
      · have e2 : ¬ f k0 = f k := fun z => e (hf _ _ z)
        simp [e, e2]
theorem getK_any {ds : List (Kd × D)} {k : Kd} (h : getK ds k = none) : (ds.any fun e => decide (e.1 = k)) = false := by
  induction ds with
  | nil => rfl
  | cons e ds ih =>
    obtain ⟨k', d⟩ := e
    rw [getK] at h
    by_cases hk : k' = k
    · rw [if_pos hk] at h; cases h
    · rw [if_neg hk] at h
      simp [hk, ih h]
/-- a key's value -/
theorem DatM.putK {K : PySem.W.Frag} {G B H : Hp} {κ : Type} [DecidableEq κ] {f : κ → Kd} (hf : ∀ a b, f a = f b → a = b) {k : κ} {v : V} {d : D} {T U : List Addr} {vs : List (κ × V)} {ds : List (Kd × D)} (n : d.old) (hd : Dat K G B H T v d) (h : DatM K G B H U (vs.map fun e => (f e.1, e.2)) ds) (hk : d.noOwn = true ∨ getK ds (f k) = none) :
    ∃ U' L, (U' ++ L).Perm (U ++ T) ∧ DatM K G B H U' ((L2.putK vs k v).map fun e => (f e.1, e.2)) (putD ds (f k) d) := by
  unfold L2.putK putD
  rw [datm_any hf (k := k) h]
  by_cases ha : (ds.any fun e => decide (e.1 = f k)) = true
  · rw [if_pos ha, if_pos ha]
    rcases hk with hk | hk
    · have := hd.noS hk
      subst this
      obtain ⟨U', L, p, r⟩ := DatM.swap hf n hd h
      exact ⟨U', L, by simpa using p, r⟩
    · rw [getK_any hk] at ha; cases ha
  · rw [if_neg ha, if_neg ha, List.map_append]
    exact ⟨U ++ T, [], by simp, h.app (by simpa using DatM.cons n hd .nil)⟩
/-- a field's value -/
def putFd : List (Kd × D) → Kd → D → List (Kd × D)
  | [], k, d => [(k, d)]
  | (k', x) :: r, k, d => if k' = k then (k', d) :: r else (k', x) :: putFd r k d
theorem DatM.putF {K : PySem.W.Frag} {G B H : Hp} {f : Str} {v : V} {d : D} {T : List Addr} (n : d.old) (hd : Dat K G B H T v d) : ∀ {U : List Addr} {vs : List (Str × V)} {ds : List (Kd × D)}, DatM K G B H U (vs.map kF) ds → ∃ U' L, (U' ++ L).Perm (U ++ T) ∧ DatM K G B H U' ((L2.putF f v vs).map kF) (putFd ds (kS f) d)
  | _, [], _, h => by
    cases h
    exact ⟨T ++ [], [], by simp, .cons n hd .nil⟩
  | _, (k0, v0) :: vs, _, h => by
    simp only [List.map_cons, kF] at h
    cases h with
    | @cons S0 T0 _ _ d0 _ ds nn h t =>
      show ∃ U' L, (U' ++ L).Perm (S0 ++ T0 ++ T) ∧ DatM K G B H U' ((if k0 = f then (k0, v) :: vs else (k0, v0) :: L2.putF f v vs).map kF) (if kS k0 = kS f then (kS k0, d) :: ds else (kS k0, d0) :: putFd ds (kS f) d)
      by_cases e : k0 = f
      · subst e
        rw [if_pos rfl, if_pos rfl]
        refine ⟨T ++ T0, S0, ?_, .cons n hd t⟩
        have : (T ++ T0 ++ S0).Perm (S0 ++ (T ++ T0)) := List.perm_append_comm
        exact this.trans (by rw [List.append_assoc]; exact (List.perm_append_comm).append_left S0)
      · have e2 : ¬ kS k0 = kS f := by simpa using e
        rw [if_neg e, if_neg e2]
        obtain ⟨U', L, p, r⟩ := DatM.putF n hd t
        exact ⟨S0 ++ U', L, by rw [List.append_assoc, List.append_assoc]; exact p.append_left S0, .cons nn h r⟩

/-! ### stores -/
def sSubL (fp : FP) (fq : FQ) (ga : FG) : FS := fun ρ => seqE (ga ρ) fun d ρ1 => match fp ρ1 with
  | .ok ⟨l, .lst .own ds, put⟩ => (match fq ρ1 with
    | .ok (.int i) => (match ixN ds.length i with
      | some j => .nx (ρ1.put l (put (.lst .own (ds.set j d))))
      | none => .no)
    | .ex x => .ex x ρ1
    | _ => .no)
  | .ex x => .ex x ρ1
  | _ => .no
def dPut (e k d : D) : Option D := match e with
  | .dic .own kvs => (match keyK k with
    | some q => if kvs.length < sizeLine ∧ (d.noOwn = true ∨ (getK kvs (.k q)).isNone = true) then some (.dic .own (putD kvs (.k q) d)) else none
    | none => none)
  | .dit .own kvs => (match keyT k with
    | some q => if kvs.length < sizeLine ∧ (d.noOwn = true ∨ (getK kvs (.t q)).isNone = true) then some (.dit .own (putD kvs (.t q) d)) else none
    | none => none)
  | _ => none
def sDPutF (fp : FP) (fq : FQ) (ga : FG) : FS := fun ρ => seqE (ga ρ) fun d ρ1 => match fp ρ1 with
  | .ok x => (match fq ρ1 with
    | .ok k => (match dPut x.e k d with
      | some e' => .nx (ρ1.put x.l (x.put e'))
      | none => .no)
    | .ex x => .ex x ρ1
    | .no => .no)
  | .ex x => .ex x ρ1
  | .no => .no
def sFldF (C : Addr) (f : Str) (fp : FP) (ga : FG) : FS := fun ρ => seqE (ga ρ) fun d ρ1 => match fp ρ1 with
  | .ok ⟨l, .obj .own C' fs, put⟩ => if C' = C ∧ fs.length < 1000 then .nx (ρ1.put l (put (.obj .own C (putFd fs (kS f) d)))) else .no
  | .ex x => .ex x ρ1
  | _ => .no
section
variable {X : Cx} {W : WX} {e o i value : Expr} {pos pos' p : Pos} {fp : FP} {fq : FQ} {ga : FG} {f : Str} {C : Addr}
theorem ex_of {K : PySem.W.Frag} {G0 G B Φ H : Hp} {As : List V} {S : Pi → List Addr} {σ : L2.St} {ρ : Plc} {x : Exn} {E : Ends} (rp : VRep K G B Φ H As S σ ρ) (s : Same G0 G) (q : (OS.ex x ρ).End K W G0 B Φ As E) : EX K W G B H σ x := fun G' H' cls dx e er => q G' H' S σ cls dx (s.trans e.g) (rp.ext e) er
theorem free_dK {vs : List (Key × V)} : HO.free (.dK vs) := fun _ _ z => by cases z
theorem free_dT {vs : List (List Key × V)} : HO.free (.dT vs) := fun _ _ z => by cases z
theorem free_ins {C dx : Addr} {vs : List (Str × V)} : HO.free (.ins C dx vs) := fun _ _ z => by cases z
theorem on_upd {H : Hp} {a : Addr} {o : HO} {U : List Addr} (na : ∀ b ∈ U, b ≠ a) : On U H (upd H a o) := fun b m u e => by rw [upd_ne (na b m)]; exact e
theorem vs_subL (hu : X.A.units + 1 < cLine) (he : GE X W e ga) (ho : PP X W o fp) (hi : QE X W i fq) (hs : swapsWithSole [.Subscript o i pos'] e pos.line X.env = pure false := by rfl) (hw : swappedStores [.Subscript o i pos'] e X.env = pure none := by rfl)
    (h1 : (assignEach [.Subscript o i pos'] X.env).map (·.2) = [assign (.Subscript o i pos') X.env] := by rfl)
    (ha : ∀ v, assign (.Subscript o i pos') X.env v = (do
      let ov ← holding [v] (eval o X.env)
      let iv ← holding [v, ov] (eval i X.env)
      standAt pos'
      holding [v, ov, iv] (setItem ov iv v)
      release [v, ov, iv] []) := by intro _; rfl) : VS X W (.Assign [.Subscript o i pos'] e pos) (sSubL fp fq ga) := psI (ps_asg he (pg_sub ho hi set_list ha) hs hw h1) fun E σ H ⟨G, B, Φ, As, S, ρ, rp, q⟩ =>
  seqE_G rp q fun d ρ1 G1 H1 S1 v T s1 r1 hd n t q1 => by
    refine ⟨G1, B, Φ, As, S1, ρ1, r1, ?_⟩
    cases hf : fp ρ1 with
    | no => rw [hf] at q1; exact q1.elim
    | ex x => rw [hf] at q1; exact ex_of r1 s1 q1
    | ok x =>
      rw [hf] at q1
      split at q1
      · rename_i l ds put heq
        cases heq
        intro G2 H2 w e2 pr
        have r2 := r1.ext e2
        refine ⟨G2, B, As, ρ1, r2.so, ?_⟩
        cases hq : fq ρ1 with
        | no => rw [hq] at q1; exact q1.elim
        | ex x => rw [hq] at q1; exact ex_of r2 (s1.trans e2.g) q1
        | ok k =>
          rw [hq] at q1
          intro G3 H3 u e3 hk fr
          split at q1
          · rename_i i' heq
            cases heq
            cases hj : ixN ds.length i' with
            | none => simp only [hj] at q1; exact q1.elim
            | some j =>
              simp only [hj] at q1
              obtain ⟨d0, v0, a1, a2, z⟩ := pr.ex
              obtain ⟨S1', S2', z1, z2, z3, z4⟩ := (z.ext e3).ex
              have r3 := r2.ext e3
              cases z2 with
              | @lst U _ a vs _ nd hs =>
                have hjl : j < ds.length := (ixN_seq hj).2.1
                have hd3 := hd.mono (e2.g.trans e3.g) (fun _ _ q => q) (On.of fun a o h => e3.h a o (e2.h a o h))
                obtain ⟨U', L, pm, hs'⟩ := Dats.put n hd3 hs hjl
                refine ⟨a, vs, i', j, rfl, dt_int hk, nd, by rw [hs.length]; exact hj, ?_⟩
                obtain ⟨S', r', _, _⟩ := node_core (x := ⟨l, .lst .own ds, put⟩) (U := U) (U' := U') (T' := []) (L := L) (e' := .lst .own (ds.set j d)) (o' := .lst (vs.set j v)) r3 a1 a2 z1 z4 ((t.ext e2 fun _ _ m => m).ext e3 fun _ _ m => m) (by simpa using pm) free_lst (fun na => .lst (f := .own) upd_same (hs'.mono (fun _ _ q => q) (fun _ _ q => q) (on_upd na))) (by simp [D.root])
                exact q1 G3 _ S' σ (s1.trans (e2.g.trans e3.g)) r'
          · rename_i heq; cases heq
          · exact q1.elim
      · rename_i heq; cases heq
      · exact q1.elim
theorem vs_dput (hu : X.A.units + 1 < cLine) (he : GE X W value ga) (ho : PP X W o fp) (hi : QE X W i fq) (hs : swapsWith value (some (.Subscript o i pos')) pos.line X.env = pure false := by rfl) : VS X W (.Assign [.Subscript o i pos'] value pos) (sDPutF fp fq ga) := psI (ps_dput hu ho hi he hs) fun E σ H ⟨G, B, Φ, As, S, ρ, rp, q⟩ =>
  seqE_G rp q fun d ρ1 G1 H1 S1 v T s1 r1 hd n t q1 => by
    refine ⟨G1, B, Φ, As, S1, ρ1, r1, ?_⟩
    cases hf : fp ρ1 with
    | no => rw [hf] at q1; exact q1.elim
    | ex x => rw [hf] at q1; exact ex_of r1 s1 q1
    | ok x =>
      rw [hf] at q1
      simp only at q1
      intro G2 H2 w e2 pr
      have r2 := r1.ext e2
      refine ⟨G2, B, As, ρ1, r2.so, ?_⟩
      cases hq : fq ρ1 with
      | no => rw [hq] at q1; exact q1.elim
      | ex x => rw [hq] at q1; exact ex_of r2 (s1.trans e2.g) q1
      | ok k =>
        rw [hq] at q1
        intro G3 H3 u e3 hk fr
        have r3 := r2.ext e3
        have t3 := (t.ext e2 fun _ _ m => m).ext e3 fun _ _ m => m
        have hd3 := hd.mono (e2.g.trans e3.g) (fun _ _ q => q) (On.of fun a o h => e3.h a o (e2.h a o h))
        simp only at q1
        cases hp : dPut x.e k d with
        | none => rw [hp] at q1; exact q1.elim
        | some e' =>
          rw [hp] at q1
          obtain ⟨l, xe, put⟩ := x
          obtain ⟨d0, v0, a1, a2, z⟩ := pr.ex
          obtain ⟨S1', S2', z1, z2, z3, z4⟩ := (z.ext e3).ex
          have unl : ∀ {a : Addr} {U : List Addr} {ho : HO}, (S1 l.pi).Perm ((a :: U) ++ S2') → NdR G3 B H3 .own a ho → H3 a = some ho := fun {a U ho} pm nd => by
            rcases nd with nd | ⟨_, ob, nd⟩
            · exact nd
            · obtain ⟨_, _, u, h1, h2⟩ := r3.fr l.pi a (pm.symm.subset (by simp))
              rw [show H3 a = some (.frz ob ho) from nd] at h1
              cases h1
              exact absurd rfl (h2 ob ho)
          unfold dPut at hp
          split at hp
          · rename_i kvs heq
            change xe = _ at heq
            subst heq
            cases z2 with
            | @dic U _ a vs _ nd hs =>
              cases hkk : keyK k with
              | none => rw [hkk] at hp; cases hp
              | some qk =>
                rw [hkk] at hp
                simp only at hp
                by_cases hc : kvs.length < sizeLine ∧ (d.noOwn = true ∨ (getK kvs (.k qk)).isNone = true)
                · rw [if_pos hc] at hp
                  cases hp
                  have hH := unl z1 nd
                  have := key_dt hk hkk
                  subst this
                  obtain ⟨U', L, pm, hs'⟩ := DatM.putK (f := Kd.k) inj_k (k := qk) n hd3 hs (hc.2.imp id fun z => by simpa using z)
                  have hl : vs.length = kvs.length := by simpa using hs.length
                  refine ⟨a, _, rfl, .inl ⟨vs, qk, hH, rfl, by rw [hl]; exact hc.1, rfl⟩, ?_⟩
                  obtain ⟨S', r', _, _⟩ := node_core (x := ⟨l, .dic .own kvs, put⟩) (U := U) (U' := U') (T' := []) (L := L) (e' := .dic .own (putD kvs (.k qk) d)) (o' := .dK (L2.putK vs qk v)) r3 a1 a2 z1 z4 t3 (by simpa using pm) free_dK (fun na => .dic (f := .own) (.inl upd_same) (hs'.mono (fun _ _ q => q) (fun _ _ q => q) (on_upd na))) (by simp [D.root])
                  exact q1 G3 _ S' σ (s1.trans (e2.g.trans e3.g)) r'
                · rw [if_neg hc] at hp; cases hp
          · rename_i kvs heq
            change xe = _ at heq
            subst heq
            cases z2 with
            | @dit U _ a vs _ nd hs =>
              cases hkk : keyT k with
              | none => rw [hkk] at hp; cases hp
              | some qk =>
                rw [hkk] at hp
                simp only at hp
                by_cases hc : kvs.length < sizeLine ∧ (d.noOwn = true ∨ (getK kvs (.t qk)).isNone = true)
                · rw [if_pos hc] at hp
                  cases hp
                  have hH := unl z1 nd
                  obtain ⟨b, rfl, hb, _⟩ := keyT_dt r3.gh hk hkk
                  obtain ⟨U', L, pm, hs'⟩ := DatM.putK (f := Kd.t) (fun a b e => by simpa using e) (k := qk) n hd3 hs (hc.2.imp id fun z => by simpa using z)
                  have hl : vs.length = kvs.length := by simpa using hs.length
                  refine ⟨a, _, rfl, .inr ⟨vs, qk, b, hH, rfl, hb, by rw [hl]; exact hc.1, rfl⟩, ?_⟩
                  obtain ⟨S', r', _, _⟩ := node_core (x := ⟨l, .dit .own kvs, put⟩) (U := U) (U' := U') (T' := []) (L := L) (e' := .dit .own (putD kvs (.t qk) d)) (o' := .dT (L2.putK vs qk v)) r3 a1 a2 z1 z4 t3 (by simpa using pm) free_dT (fun na => .dit (f := .own) (.inl upd_same) (hs'.mono (fun _ _ q => q) (fun _ _ q => q) (on_upd na))) (by simp [D.root])
                  exact q1 G3 _ S' σ (s1.trans (e2.g.trans e3.g)) r'
                · rw [if_neg hc] at hp; cases hp
          · cases hp
theorem vs_fld (c : Cls X.K C) (nf : NoAttr X.K C f) (he : GE X W value ga) (ho : PP X W o fp) (hs : swapsWith value (some (.Attribute o f pos')) pos.line X.env = pure false := by rfl) : VS X W (.Assign [.Attribute o f pos'] value pos) (sFldF C f fp ga) := psI (ps_fld ho he hs) fun E σ H ⟨G, B, Φ, As, S, ρ, rp, q⟩ =>
  seqE_G rp q fun d ρ1 G1 H1 S1 v T s1 r1 hd n t q1 => by
    refine ⟨G1, B, Φ, As, S1, ρ1, r1, ?_⟩
    cases hf : fp ρ1 with
    | no => rw [hf] at q1; exact q1.elim
    | ex x => rw [hf] at q1; exact ex_of r1 s1 q1
    | ok x =>
      rw [hf] at q1
      split at q1
      · rename_i l C' fs put heq
        cases heq
        by_cases hc : C' = C ∧ fs.length < 1000
        · rw [if_pos hc] at q1
          obtain ⟨rfl, hl⟩ := hc
          intro G2 H2 w e2 pr
          have r2 := r1.ext e2
          have hd3 := hd.mono e2.g (fun _ _ q => q) (On.of e2.h)
          obtain ⟨d0, v0, a1, a2, z⟩ := pr.ex
          obtain ⟨S1', S2', z1, z2, z3, z4⟩ := z.ex
          cases z2 with
          | @obj U _ a _ dx vs _ nd hs =>
            obtain ⟨U', L, pm, hs'⟩ := DatM.putF (f := f) n hd3 hs
            have hl2 : vs.length = fs.length := by simpa using hs.length
            refine ⟨a, C', dx, vs, rfl, nd, c, nf, by rw [hl2]; exact hl, ?_⟩
            obtain ⟨S', r', _, _⟩ := node_core (x := ⟨l, .obj .own C' fs, put⟩) (U := U) (U' := U') (T' := []) (L := L) (e' := .obj .own C' (putFd fs (kS f) d)) (o' := .ins C' dx (L2.putF f v vs)) r2 a1 a2 z1 z4 (t.ext e2 fun _ _ m => m) (by simpa using pm) free_ins (fun na => .obj (f := .own) (dx := dx) upd_same (hs'.mono (fun _ _ q => q) (fun _ _ q => q) (on_upd na))) (by simp [D.root])
            exact q1 G2 _ S' σ (s1.trans e2.g) r'
        · rw [if_neg hc] at q1; exact q1.elim
      · rename_i heq; cases heq
      · exact q1.elim
end
end VL

/-! VLz: instances made; dicts; the end of a law. -/
namespace VL
open PySem PySem.Spec PyProof.Rows L2

/-! ### instances made -/
abbrev mkH (C : Addr) (H : Hp) (a b : Addr) : Hp := upd (upd H b (.own a)) a (.ins C b [])
section
variable {X : Cx} {W : WX} {pos p : Pos} {x : Str} {e : Expr} {es : List Expr} {k n : Nat} {C : Addr}
theorem run_mkS {CX : CXT} {f : Addr} {fd : FuncData} {ps : List Str} {sp : Sp} {E : XK} {pins : List (Addr × Obj)} {σ : L2.St} {H : Hp} {s : Shared} {Q : VK} {us : List Value} {vs : List V} (M : Mk X.K C f) (F : FnOk X.prog X.w X.K X.mg X.base CX k f fd ps sp) (hr : Room (k + 1) X.A) (hb : Binds X.K fd ps [])
    (hx : PassesAt CX X σ E) (I : Inv X pins σ H s) (r : Vals vs us) (h : ∀ a b, H a = none → H b = none → b ≠ a → sp (.ref a :: vs) (mkH C H a b) (fun v H2 => v = .non ∧ Q (.ref a) H2) E) :
    wpAny (model X.prog X.w) X.A (call (.ref C) us) (EP X pins σ Q) X.xe s := by
  have new0 := I.hok.fresh (Nat.le_refl s.heap.objs.size)
  have new1 := I.hok.fresh (Nat.le_succ s.heap.objs.size)
  have ask := h _ _ new1 new0 (Nat.ne_of_lt (Nat.lt_succ_self _))
  have J := Inv.made (C := C) I
  have rv : Vals (V.ref (s.heap.objs.size + 1) :: vs) (Value.ref (s.heap.objs.size + 1) :: us) := .cons rfl r
  have len : (Value.ref (s.heap.objs.size + 1) :: us ++ []).length = ps.length := by
    rw [List.append_nil, ← rv.length, F.len _ _ _ _ ask]
  have bd := hb _ (Value.ref (s.heap.objs.size + 1) :: us) J.kIn len
  rw [List.append_nil] at bd
  have run := F.run _ X.stack _ _ ⟨Value.ref (s.heap.objs.size + 1) :: us, []⟩ _ _ _ E (hr.make C us []) (J.env0.make C us []) bd rv ask
  refine wpAny_call (make_map (f := f) I.kIn M.makes M.init (beq_iff_eq.mp M.fn) (codeAny_mono run fun r s' q => ?_))
  match r, q with
  | .error e, q => exact hx pins _ _ e s' J q
  | .ok (.ret u), q =>
    obtain ⟨v, H', I3, rel, ev, q3⟩ := J.after q
    subst ev
    exact ⟨rel, ⟨V.ref (s.heap.objs.size + 1), H', I3, rfl, q3⟩⟩
  | .ok .next, q => exact q.elim
  | .ok .brk, q => exact q.elim
  | .ok .cont, q => exact q.elim
theorem pe_mkS {CX : CXT} {f : Addr} {fd : FuncData} {ps : List Str} {sp : Sp} {E : L2.St → XK} {t : TA} (M : Mk X.K C f) (F : FnOk X.prog X.w X.K X.mg X.base CX k f fd ps sp) (hr : Room (k + 1) X.A) (hg : Gl X x) (hm : X.mg x = some (.ref C)) (hb : Binds X.K fd ps []) (hx : ∀ σ, PassesAt CX X σ (E σ)) (ha : PA X (e :: es) t)
    (hdb : (x == ("__debug__" : Str)) = false) (he : starEach (e :: es) X.env = (false, eval e X.env) :: starEach es X.env) (hpl : (backTo pos (starEach es X.env)).any (·.1) = false) :
    PE X (.Call (.Name x p) (e :: es) [] pos) (fun σ H Q => t σ H fun vs H1 => ∀ a b, H1 a = none → H1 b = none → b ≠ a → sp (.ref a :: vs) (mkH C H1 a b) (fun v H2 => v = .non ∧ Q (.ref a) H2) (E σ)) := by
  constructor
  intro pins s σ H Q I h
  refine wpAny_Call_Name_kw (ld_glob I hg hm ?_ hdb)
  have step := thn (ha.run pos pins s σ H _ I h) fun us s1 ⟨vs, H1, I1, r, q⟩ => (⟨I1.kIn, run_mkS M F hr hb (hx σ) I1 r q⟩ : X.K.In s1.heap ∧ _)
  exact PySem.W.callWith_K (h₀ := X.base) I.ok.mod.kin M.kp step he hpl
theorem pe_mk0S {CX : CXT} {f : Addr} {fd : FuncData} {ps : List Str} {sp : Sp} {E : L2.St → XK} (M : Mk X.K C f) (F : FnOk X.prog X.w X.K X.mg X.base CX k f fd ps sp) (hr : Room (k + 1) X.A) (hg : Gl X x) (hm : X.mg x = some (.ref C)) (hb : Binds X.K fd ps []) (hx : ∀ σ, PassesAt CX X σ (E σ))
    (hdb : (x == ("__debug__" : Str)) = false) :
    PE X (.Call (.Name x p) [] [] pos) (fun σ H Q => ∀ a b, H a = none → H b = none → b ≠ a → sp [.ref a] (mkH C H a b) (fun v H2 => v = .non ∧ Q (.ref a) H2) (E σ)) :=
  ⟨fun pins s σ H Q I h => wpAny_Call_Name_kw (ld_glob I hg hm (PySem.W.callWith_K0 I.kIn M.kp (run_mkS M F hr hb (hx σ) I .nil h)) hdb)⟩
end
def makeG (o : OF) (hs : List (Option Lc)) (ρ : Plc) : Out (Exn × Plc) (D × Plc) := match o with
  | .rt .non (some d :: os) => .ok (d, putH hs os ρ)
  | .ex x (_ :: os) => .ex (x, putH hs os ρ)
  | _ => .no
def gMake (C : Addr) (F : Fn) (f : FAr) : FG := fun ρ => (f ρ).bind fun x => makeG (F (.obj .own C [] :: x.1)) x.2.1 x.2.2
def shift (a : Addr) (Sa : Nat → List Addr) : Nat → List Addr
  | 0 => [a]
  | j + 1 => Sa j
theorem rdy_make {K : PySem.W.Frag} {W : WX} {G B Φ H : Hp} {As : List V} {S : Pi → List Addr} {σ : L2.St} {ρ : Plc} {ms : List Md} {Sa : Nat → List Addr} {vs : List V} {es : List D} {hs : List (Option Lc)} {F : Fn} {C : Addr} {R : VK} (rd : Rdy K G B Φ H As S σ ρ ms Sa vs es hs)
    (q : (makeG (F (.obj .own C [] :: es)) hs ρ).P (GK K G B Φ As σ R) (GX K W G B Φ As σ)) (a b : Addr) (ha : H a = none) (hb : H b = none) (hba : b ≠ a) : liftF K (.m :: ms) F (.ref a :: vs) (mkH C H a b) (fun v H2 => v = .non ∧ R (.ref a) H2) (WE W σ) := by
  have e1 : Ext G H G (upd H b (.own a)) := Ext.lay rd.rep.gh hb
  have e2 : Ext G (upd H b (.own a)) G (mkH C H a b) := Ext.lay e1.gh (by rw [upd_ne (Ne.symm hba)]; exact ha)
  have e := e1.trans e2
  have r0 := rd.rep.ext e
  obtain ⟨ga, pa, sa⟩ := rd.rep.none_of ha
  have na : ∀ j, a ∉ Sa j := fun j m => by
    obtain ⟨_, _, _, o, z, _⟩ := (rd.tok j).2 a m
    rw [ha] at z; cases z
  have tT : ∀ y, (∃ j, y ∈ shift a Sa j) → y = a ∨ ∃ j, y ∈ Sa j := fun y ⟨j, m⟩ => by
    cases j with
    | zero => exact .inl (by simpa [shift] using m)
    | succ j => exact .inr ⟨j, m⟩
  have le : Same (less G (fun y => ∃ j, y ∈ Sa j) H) (less G (fun y => ∃ j, y ∈ shift a Sa j) (mkH C H a b)) := fun y o h => by
    obtain ⟨h1, h2, h3⟩ := less_of h
    refine less_at (e.h y o h1) h2 fun z => ?_
    rcases tT y z with rfl | z
    · rw [ha] at h1; cases h1
    · exact h3 z
  have hS : ∀ i, ∀ y ∈ S i, ¬ ∃ j, y ∈ shift a Sa j := fun i y m z => by
    rcases tT y z with rfl | ⟨j, z⟩
    · exact sa i m
    · exact ((rd.tok j).2 y z).1 i m
  have hP : ∀ y, (∃ j, y ∈ shift a Sa j) → Φ y = none := fun y z => by
    rcases tT y z with rfl | ⟨j, z⟩
    · exact pa
    · exact ((rd.tok j).2 y z).2.2.1
  have cin : CIn K G (less G (fun y => ∃ j, y ∈ shift a Sa j) (mkH C H a b)) (mkH C H a b) (.m :: ms) (shift a Sa) (.ref a :: vs) (.obj .own C [] :: es) := by
    refine ⟨e.gh, fun y o z => (less_of z).1, fun y o z => (less_of z).2.1, by simp [rd.vl], by simp [rd.dl], fun j md v d h1 h2 h3 => ?_, ⟨fun j => ?_, fun i j y hij m => ?_, fun j y m => ⟨?_, ?_, ?_⟩⟩⟩
    · cases j with
      | zero =>
        simp at h1 h2 h3
        subst h1 h2 h3
        exact ⟨.obj (f := .own) (dx := b) (vs := []) upd_same .nil, by simp [D.root], rfl⟩
      | succ j =>
        obtain ⟨q1, q2⟩ := rd.at' j md v d (by simpa using h1) (by simpa using h2) (by simpa using h3)
        exact ⟨q1.mono (fun _ _ z => z) le (On.of e.h), q2⟩
    · cases j with
      | zero => simp [shift]
      | succ j => exact (rd.tok j).1
    · cases i with
      | zero =>
        have : y = a := by simpa [shift] using m
        subst this
        cases j with
        | zero => exact absurd rfl hij
        | succ j => exact na j
      | succ i =>
        cases j with
        | zero => intro z; have : y = a := by simpa [shift] using z
                  subst this; exact na i m
        | succ j => exact rd.dj i j y (by simpa using hij) m
    · cases j with
      | zero => have : y = a := by simpa [shift] using m
                subst this; exact ga
      | succ j => exact ((rd.tok j).2 y m).2.1
    · cases z : less G (fun y => ∃ j, y ∈ shift a Sa j) (mkH C H a b) y with
      | none => rfl
      | some u => exact absurd ⟨j, m⟩ (less_of z).2.2
    · cases j with
      | zero => have : y = a := by simpa [shift] using m
                subst this; exact ⟨_, upd_same, free_ins⟩
      | succ j =>
        obtain ⟨_, _, _, o, h1, h2⟩ := (rd.tok j).2 y m
        exact ⟨o, e.h y o h1, h2⟩
  -- what is left, put back
  have back : ∀ {G' H' : Hp} {Sa' : Nat → List Addr} {o0 : Option D} {os : List (Option D)}, Left G (less G (fun y => ∃ j, y ∈ shift a Sa j) (mkH C H a b)) G' H' → COut K G' (less G (fun y => ∃ j, y ∈ shift a Sa j) (mkH C H a b)) H' (.m :: ms) Sa' (.ref a :: vs) (o0 :: os) →
      ∃ S', VRep K G' B Φ H' As S' σ (putH hs os ρ) ∧ TOk (Sa' 0) S' G' Φ H' := fun {G' H' Sa' o0 os} L co => by
    obtain ⟨r1, r2, r3⟩ := r0.left hS hP L
    obtain ⟨S', r', q'⟩ := VRep.putH (Sa' := Sa') (os := os) (Sx := fun _ => True) 1 hs os r1 (fun j l d h1 h2 => by
      obtain ⟨b1, b2⟩ := rd.back j l h1
      obtain ⟨d', v, c1, c2, c3, c4, c5⟩ := co.at' (1 + j) (by rw [Nat.add_comm]; simpa using b1)
      rw [show (o0 :: os)[1 + j]? = os[j]? by rw [Nat.add_comm]; simp, h2] at c1
      cases c1
      rw [show (V.ref a :: vs)[1 + j]? = vs[j]? by rw [Nat.add_comm]; simp] at c2
      exact ⟨v, b2 v c2, c3.anyB c5, c4, co.rg.nd _, fun y m => by
        obtain ⟨g1, g2, g3⟩ := co.rg.fr _ y m
        refine ⟨g1, ?_, g3⟩
        cases z : Φ y with
        | none => rfl
        | some u => exact absurd g2 (r3 y u z)⟩) (fun j _ y m i z => r2 i y z (co.rg.fr j y m).2.1) co.rg.dj
    refine ⟨S', r', co.rg.nd 0, fun y m => ?_⟩
    obtain ⟨g1, g2, g3⟩ := co.rg.fr 0 y m
    refine ⟨fun i z => ?_, g1, ?_, g3⟩
    · rcases q' i y z with ⟨j, z⟩ | ⟨j, h1, z⟩
      · exact r2 j y z g2
      · exact co.rg.dj 0 j y (by omega) m z
    · cases z : Φ y with
      | none => rfl
      | some u => exact absurd g2 (r3 y u z)
  refine ⟨G, _, shift a Sa, .obj .own C [] :: es, cin, ?_⟩
  unfold makeG at q
  cases hF : F (.obj .own C [] :: es) with
  | no => rw [hF] at q; exact q.elim
  | rt d os =>
    rw [hF] at q
    split at q
    · rename_i d1 os' heq
      cases heq
      intro G' H' Sa' v T L co hd n nb t1 t2
      obtain ⟨S', r', t⟩ := back L co
      obtain ⟨d', v', c1, c2, c3, c4, c5⟩ := co.at' 0 rfl
      simp at c1 c2
      subst c1 c2
      exact ⟨dt_non ⟨_, hd⟩, q G' H' S' _ _ L.g r' (c3.anyB c5) c4 t⟩
    · rename_i heq; cases heq
    · exact q.elim
  | ex x os =>
    rw [hF] at q
    split at q
    · rename_i heq; cases heq
    · rename_i x' o0 os' heq
      cases heq
      intro G' H' Sa' cls dx L co er pl
      obtain ⟨S', r', t⟩ := back L co
      exact q G' H' S' cls dx L.g r' (exn_plain er pl)
    · exact q.elim
section
variable {X : Cx} {W : WX} {pos p : Pos} {x : Str} {e : Expr} {es : List Expr} {k : Nat} {ms : List Md} {F : Fn} {f : FAr} {C : Addr}
theorem ge_make (mk : PySem.W.makesIn X.K C = true) (kp : PySem.W.keepIn X.K (.ref C) = true) (hm : X.mg x = some (.ref C)) (F' : VMt X.prog X.w X.K X.mg X.base C "__init__" k (.m :: ms) F) (hr : Room (k + 1) X.A) (tk : Takes X W) (ha : CA X W (e :: es) ms f) (hg : Gl X x := by rfl) (hdb : (x == ("__debug__" : Str)) = false := by decide)
    (he : starEach (e :: es) X.env = (false, eval e X.env) :: starEach es X.env := by rfl) (hpl : (backTo pos (starEach es X.env)).any (·.1) = false := by rfl) : GE X W (.Call (.Name x p) (e :: es) [] pos) (gMake C F f) := by
  obtain ⟨fa, fd, ps, F', hme, hb⟩ := F'.ex
  refine peI (pe_mkS ⟨mk, hme.at_, hme.fn, kp⟩ F' hr hg hm hb (fun σ => passAt tk σ) ha hdb he hpl) fun σ H R ⟨G, B, Φ, As, S, ρ, r, q⟩ => ?_
  exact ⟨G, B, Φ, As, S, ρ, r, Out.P_mono (Out.P_bind.mp q) (fun x q1 G' H' S' Sa vs s rd a b h1 h2 h3 => rdy_make rd (Out.P_mono q1 (fun _ k => k.mono s) fun _ k => k.mono s) a b h1 h2 h3) fun _ z => z⟩
theorem ge_make0 (mk : PySem.W.makesIn X.K C = true) (kp : PySem.W.keepIn X.K (.ref C) = true) (hm : X.mg x = some (.ref C)) (F' : VMt X.prog X.w X.K X.mg X.base C "__init__" k [.m] F) (hr : Room (k + 1) X.A) (tk : Takes X W) (hg : Gl X x := by rfl) (hdb : (x == ("__debug__" : Str)) = false := by decide) : GE X W (.Call (.Name x p) [] [] pos) (gMake C F fun ρ => .ok ([], [], ρ)) := by
  obtain ⟨fa, fd, ps, F', hme, hb⟩ := F'.ex
  refine peI (pe_mk0S ⟨mk, hme.at_, hme.fn, kp⟩ F' hr hg hm hb (fun σ => passAt tk σ) hdb) fun σ H R ⟨G, B, Φ, As, S, ρ, r, q⟩ a b h1 h2 h3 => ?_
  exact rdy_make (ms := []) (Sa := fun _ => []) (es := []) (hs := []) ⟨r, fun _ => .nil, (fun _ _ _ _ m => by cases m), rfl, rfl, (fun j md v d a => by simp at a), (fun j l h => by simp at h)⟩ q a b h1 h2 h3
end

/-! ### new dicts -/
def qDNewK : FQ := fun _ => .ok (.dic .new [])
def qDNewT : FQ := fun _ => .ok (.dit .new [])
section
variable {X : Cx} {W : WX} {pos apos cpos : Pos} {o e f : Expr} {fo fe ff : FQ}
theorem qe_dnewK : QE X W (.Dict [] [] pos) qDNewK := peI pe_dnewK fun σ H R ⟨G, B, As, ρ, so, q⟩ p hp => by
  have e := Ext.lay (o := .dK []) so.gh hp
  exact q G _ _ e ⟨_, .dic (f := .new) (vs := []) (.inl upd_same) .nil⟩ fun _ => ⟨p, rfl, hp, Same.free so.gh hp⟩
theorem qe_dnewT : QE X W (.Dict [] [] pos) qDNewT := peI pe_dnewT fun σ H R ⟨G, B, As, ρ, so, q⟩ p hp => by
  have e := Ext.lay (o := .dT []) so.gh hp
  exact q G _ _ e ⟨_, .dit (f := .new) (vs := []) (.inl upd_same) .nil⟩ fun _ => ⟨p, rfl, hp, Same.free so.gh hp⟩
def isDic : D → Bool
  | .dic _ _ => true
  | .dit _ _ => true
  | _ => false
def qDGet1 (fo fe : FQ) : FQ := fun ρ => (fo ρ).bind fun d => if isDic d = true then (fe ρ).bind fun k => match dgetD d k with
  | some o => .ok (o.getD .non)
  | none => .no else .no
def qDGet2 (fo fe ff : FQ) : FQ := fun ρ => (fo ρ).bind fun d => if isDic d = true then (fe ρ).bind fun k => (ff ρ).bind fun z => match dgetD d k with
  | some o => .ok (o.getD z)
  | none => .no else .no
theorem is_dic {K : PySem.W.Frag} {G B H : Hp} {v : V} {d : D} (gh : Same G H) (bh : Same B H) (h : Dt K G B H v d) (i : isDic d = true) : ∃ a, v = .ref a ∧ IsD H a := by
  cases d with
  | dic f kvs => obtain ⟨p, vs, rfl, hp, _⟩ := dt_dic gh bh h; exact ⟨p, rfl, .inl ⟨vs, hp⟩⟩
  | dit f kvs => obtain ⟨p, vs, rfl, hp, _⟩ := dt_dit gh bh h; exact ⟨p, rfl, .inr ⟨vs, hp⟩⟩
  | _ => cases i
theorem qe_dget1 (hu : X.A.units + 1 < cLine) (ho : QE X W o fo) (he : QE X W e fe) (m : M1 X o "get" apos e cpos) : QE X W (.Call (.Attribute o "get" apos) [e] [] cpos) (qDGet1 fo fe) := peI (pe_dget1 hu ho he m) fun σ H R ⟨G, B, As, ρ, so, q⟩ =>
  upQ_bind so q fun d G1 H1 v e1 hd fr q1 => by
    obtain ⟨hi, q1⟩ := Out.P_ifn q1
    have so1 := so.ext e1
    obtain ⟨a, rfl, ia⟩ := is_dic so1.gh so1.bh hd hi
    refine ⟨a, rfl, ia, upQ_bind so1 (Out.P_mono q1 (fun _ z => z) fun _ z => EX.ext e1 z) fun k G2 H2 u e2 hk fr2 q2 => ?_⟩
    have so2 := so1.ext e2
    cases hg : dgetD d k with
    | none => rw [hg] at q2; exact q2.elim
    | some oo =>
      rw [hg] at q2
      obtain ⟨a', r, ea, g, i1, i2⟩ := dget_dt so2.gh so2.bh (Dt.ext e2 hd) hk hg
      cases ea
      refine ⟨r, g, ?_⟩
      cases oo with
      | none => rw [i1 rfl]; exact (KQ.ext (e1.trans e2) q2).atom so2.gh .non
      | some d' =>
        obtain ⟨v', rfl, n, hd'⟩ := i2 d' rfl
        exact (KQ.ext (e1.trans e2) q2).given so2.gh hd' (Fresh.of n)
theorem qe_dget2 (hu : X.A.units + 1 < cLine) (ho : QE X W o fo) (he : QE X W e fe) (hf : QE X W f ff) (m : M2 X o "get" apos e f cpos) : QE X W (.Call (.Attribute o "get" apos) [e, f] [] cpos) (qDGet2 fo fe ff) := peI (pe_dget2 hu ho he hf m) fun σ H R ⟨G, B, As, ρ, so, q⟩ =>
  upQ_bind so q fun d G1 H1 v e1 hd fr q1 => by
    obtain ⟨hi, q1⟩ := Out.P_ifn q1
    have so1 := so.ext e1
    obtain ⟨a, rfl, ia⟩ := is_dic so1.gh so1.bh hd hi
    refine ⟨a, rfl, ia, upQ_bind so1 (Out.P_mono q1 (fun _ z => z) fun _ z => EX.ext e1 z) fun k G2 H2 u e2 hk fr2 q2 => upQ_bind (so1.ext e2) (Out.P_mono q2 (fun _ z => z) fun _ z => EX.ext e2 z) fun z G3 H3 w e3 hz fr3 q3 => ?_⟩
    have so3 := (so1.ext e2).ext e3
    cases hg : dgetD d k with
    | none => rw [hg] at q3; exact q3.elim
    | some oo =>
      rw [hg] at q3
      obtain ⟨a', r, ea, g, i1, i2⟩ := dget_dt so3.gh so3.bh (Dt.ext (e2.trans e3) hd) (Dt.ext e3 hk) hg
      cases ea
      refine ⟨r, g, ?_⟩
      cases oo with
      | none => rw [i1 rfl]; exact q3 G3 H3 w ((e1.trans e2).trans e3) hz ((fr3.back e2).back e1)
      | some d' =>
        obtain ⟨v', rfl, n, hd'⟩ := i2 d' rfl
        exact (KQ.ext ((e1.trans e2).trans e3) q3).given so3.gh hd' (Fresh.of n)
end

/-! ### the end of a law -/
def spLawV (K : PySem.W.Frag) : Sp := fun vs H Q _ => ∃ (a : Addr) (ns : List Int), vs = [.ref a] ∧ SqL K H a (ns.map V.int) ∧ ns.length ≤ 63 ∧ ∀ H', Q (.bl true) H'
theorem ints_dats {K : PySem.W.Frag} {G B H : Hp} : ∀ ns : List Int, Dats K G B H [] (ns.map V.int) (ns.map D.int)
  | [] => .nil
  | s :: ss => .cons (S := []) (by simp [D.root]) (.int s) (ints_dats ss)
theorem ints_all {p : Fl → Bool} : ∀ ns : List Int, D.allFL p (ns.map D.int) = true
  | [] => rfl
  | n :: ns => by rw [List.map_cons, D.allFL, ints_all ns]; rfl
theorem law_sp {K : PySem.W.Frag} {vs : List V} {H : Hp} {Q : VK} {E : XK} {F : Fn} (hF : ∀ ns : List Int, ns.length ≤ 63 → ∃ os, F [.lst .loc (ns.map D.int)] = .rt (.bl true) os) (h : spLawV K vs H Q E) : liftF K [.r] F vs H Q E := by
  obtain ⟨a, ns, rfl, hS, hl, k⟩ := h
  obtain ⟨os, e⟩ := hF ns hl
  refine ⟨fun _ => none, H, fun _ => [], [.lst .loc (ns.map D.int)], ⟨fun _ _ e => (by cases e), fun _ _ e => e, fun _ _ _ => rfl, rfl, rfl, fun j md v d h1 h2 h3 => ?_, .nil⟩, ?_⟩
  · cases j with
    | zero =>
      simp at h1 h2 h3
      subst h1 h2 h3
      exact ⟨.lok (.inl hS) (ints_dats ns), rfl, by simp [D.lent, D.allF, lentF, ints_all]⟩
    | succ j => simp at h1
  · rw [e]
    intro G' H' Sa' v T L co hd n nb t1 t2
    rw [dt_bl ⟨_, hd⟩]
    exact k H'
theorem walk {l : PySem.W.OpenLaw} {q : Program} {loose : List Str} {XP : (Str → Option Value) → Heap → Prop} {YP : World → Heap → Prop} {d : DefRec} {K : Params → PySem.W.Frag} {k : Nat} (hn : l.most = some 63) (hdf : d.params.defaults = []) (hroom : Room k callerA)
    (hY : ∀ (w : World) (h : Heap), YP w h → (K w.params).In h)
    (F : ∀ (w : World) (mg : Str → Option Value) (fa : Addr) (h : Heap), (K w.params).In h → h.Ns mainGlobals mg → mg d.name = some (.ref fa) →
      ∃ fd : FuncData, (∀ (s : Shared) (u : Value), BindsTo s fd ⟨[u], []⟩ [("_law_script", u)]) ∧ ∀ base : Heap, (K w.params).In base → base.Ns mainGlobals mg → FnOk l.prog w (K w.params) mg base (L2.CX l.prog w) k fa fd ["_law_script"] (spLawV (K w.params))) :
    PySem.W.WalkO q loose XP YP l.row.toRowW d [] (fun f vs => PySem.call f vs) :=
  L2.walk_of (n := 63) (k := k) (x := "_law_script") (CX := fun w => L2.CX l.prog w) (sp := fun w => spLawV (K w.params)) hn (by decide) hdf hroom hY F (fun _ _ a ns hl _ hS => ⟨a, ns, rfl, hS, hl, fun _ => rfl⟩) fun _ _ _ _ _ z => by
    obtain ⟨_, _, _, _, _, _, _, _, _, _, _, _, z⟩ := z
    exact z.elim
end VL

/-! VMa: errors; what the top has written. -/
namespace VL
open PySem PySem.Spec PyProof.Rows L2

/-! ### errors -/
/-- an exception class of the text, over ValueError at the end -/
structure ExK (K : PySem.W.Frag) (mg : Str → Option Value) (x : Str) (C : Addr) : Prop where
  g : mg x = some (.ref C)
  x : PySem.W.excIn K C [.type "ValueError", .type "Exception", .type "BaseException", .type "object"] "ValueError.__new__" = true
  k : PySem.W.keepIn K (.ref C) = true
  b : PySem.W.subIn K (.ref C) (.type "BaseException") = some true
  t : PySem.W.typeIn K (.ref C) = some (.type "type")
def sRaise (C : Addr) : FS := fun ρ => .ex ⟨.ref C, none⟩ ρ
def OS.forget (i : Nat) : OS → OS
  | .nx ρ => .nx (ρ.setS i .no)
  | .bk ρ => .bk (ρ.setS i .no)
  | .ct ρ => .ct (ρ.setS i .no)
  | .rt d ρ => .rt d ρ
  | _ => .no
def OS.calm : OS → OS
  | .ex _ _ => .no
  | o => o
open Classical in
/-- the same whatever the address -/
noncomputable def allA (f : Addr → OS) : OS := if h : ∃ o, ∀ a, f a = o then Classical.choose h else .no
theorem allA_eq {f : Addr → OS} {o : OS} (h : ∀ a, f a = o) : allA f = o := by
  unfold allA
  have hx : ∃ o, ∀ a, f a = o := ⟨o, h⟩
  rw [dif_pos hx]
  have := Classical.choose_spec hx 0
  rw [h 0] at this
  exact this.symm
theorem allA_at {f : Addr → OS} (h : allA f ≠ .no) (a : Addr) : f a = allA f := by
  unfold allA at h ⊢
  by_cases hx : ∃ o, ∀ a, f a = o
  · rw [dif_pos hx]; exact Classical.choose_spec hx a
  · rw [dif_neg hx] at h; exact absurd rfl h
/-- try: body / except x as n: suite; behind the suite the name is forgotten -/
noncomputable def sTryAs (K : PySem.W.Frag) (c : Value) (i : Nat) (tb : FS) (ts : Exn → Addr → FS) : FS := fun ρ => match tb ρ with
  | .ex x ρ' => (match PySem.W.exmOne K x.cls c with
    | some true => allA fun a => (ts x a (ρ'.setS i (.val (.ref a)))).forget i
    | some false => .ex x ρ'
    | none => .no)
  | o => o
noncomputable def sTryOnly (K : PySem.W.Frag) (c : Value) (tb : FS) (ts : Exn → Addr → FS) : FS := fun ρ => match tb ρ with
  | .ex x ρ' => (match PySem.W.exmOne K x.cls c with
    | some true => allA fun a => (ts x a ρ').calm
    | some false => .ex x ρ'
    | none => .no)
  | o => o
/-- how the error that a suite holds is known -/
structure Held (K : PySem.W.Frag) (y : Exn) (cls : Value) (d : Option Addr) : Prop where
  c : cls = y.cls
  d : y.flds = none → d = none
section
variable {X : Cx} {W : WX} {pos p p2 np pos' : Pos} {x m n : Str} {C : Addr} {c : Value} {i : Nat} {body suite : List Stmt} {b₀ : Stmt} {tb : FS} {ts : Exn → Addr → FS}
theorem vs_raise {j : Nat} {pos2 : Pos} (hc : X.calm = true) (tk : Takes X W) (T : ExK X.K X.mg x C) (hg : Gl X x := by rfl) (hdb : (x == ("__debug__" : Str)) = false := by decide) : VS X W (.Raise (some (.Call (.Name x p) [.Constant (.str m) j p2] [] pos)) none pos2) (sRaise C) :=
  psI (ps_raise hc tk (pmk_own PySem.F.excBase_ValueError T.x T.g T.k (raises_own T.b T.t) hg hdb)) fun E σ H ⟨G, B, Φ, As, S, ρ, rp, q⟩ => q G H S σ (.ref C) none (fun _ _ e => e) rp ⟨rfl, rfl⟩
theorem vs_try_as (hs : X.stack = X.env :: X.outer) (hf : X.env.frame = some X.env.locals) (hN : X.N.Nodup) (hi : X.N[i]? = some n) (hln : X.env.kindOf n = some .local) (hc : Names X x c) (tk : Takes X W)
    (hb : ∀ (W' : WX) (pn : List (Addr × Obj)) (xe : Value → Shared → Prop), Takes (X.tr pn xe) W' → PassesOwn (model X.prog X.w) X.A X.env xe → VSs (X.tr pn xe) W' body tb)
    (hsu : ∀ (a : Addr) (oe : Obj) (cls : Value) (d : Option Addr) (pn : List (Addr × Obj)) (y : Exn), Zc cls d oe → (∃ vs, oe.data = .fields vs) → Held X.K y cls d → VSs (X.suite a ((a, oe) :: pn)) W0 (b₀ :: suite) (ts y a)) :
    VS X W (.Try body [.ExceptHandler (some (.Name x np)) (some n) (b₀ :: suite) pos'] [] [] pos) (sTryAs X.K c i tb ts) := by
  refine psI (ps_try_as (tb := fun W' => upS X.K W' tb) (ts := fun a cls d E σ H => ∃ y, Held X.K y cls d ∧ upS X.K W0 (ts y a) E σ H) hs hf hN hi hln hc tk hb fun a oe cls d pn hz hfl => ?_) fun E σ H ⟨G, B, Φ, As, S, ρ, rp, q⟩ => ?_
  · exact ⟨fun pins s σ H E I ⟨y, hh, h⟩ => (hsu a oe cls d pn y hz hfl hh).run pins s σ H E I h⟩
  · refine ⟨G, B, Φ, As, S, ρ, rp, ?_⟩
    unfold sTryAs at q
    cases ht : tb ρ with
    | no => rw [ht] at q; exact q.elim
    | nx ρ1 => rw [ht] at q; exact q
    | rt d ρ1 => rw [ht] at q; exact q
    | bk ρ1 => rw [ht] at q; exact q
    | ct ρ1 => rw [ht] at q; exact q
    | ex x ρ1 =>
      rw [ht] at q
      simp only at q
      intro G1 H1 S1 σ1 cls dx s1 r1 er
      have ec : cls = x.cls := er.1
      subst ec
      cases hx : PySem.W.exmOne X.K x.cls c with
      | none => rw [hx] at q; exact q.elim
      | some b =>
        rw [hx] at q
        cases b with
        | false => exact ⟨false, hx, (fun z => by cases z), fun _ => q G1 H1 S1 σ1 _ dx s1 r1 er⟩
        | true =>
          refine ⟨true, hx, fun _ a ha => ?_, fun z => by cases z⟩
          refine ⟨x, ⟨rfl, fun hn => by have := er.2; rw [hn] at this; exact this⟩, G1, B, Φ, As, _, _, r1.set (i := i) (.ref a) (by simp [D.root]) .nil, ?_⟩
          simp only at q
          have hne : allA (fun a => (ts x a (ρ1.setS i (.val (.ref a)))).forget i) ≠ .no := fun z => by rw [z] at q; exact q
          rw [← allA_at hne a] at q
          cases hts : ts x a (ρ1.setS i (.val (.ref a))) with
          | no => rw [hts] at q; exact q.elim
          | ex y ρ2 => rw [hts] at q; exact q.elim
          | nx ρ2 => rw [hts] at q; exact fun G2 H2 S2 σ2 s2 r2 => q G2 H2 _ _ (s1.trans s2) r2.drop
          | bk ρ2 => rw [hts] at q; exact fun G2 H2 S2 σ2 s2 r2 => q G2 H2 _ _ (s1.trans s2) r2.drop
          | ct ρ2 => rw [hts] at q; exact fun G2 H2 S2 σ2 s2 r2 => q G2 H2 _ _ (s1.trans s2) r2.drop
          | rt d ρ2 => rw [hts] at q; exact fun G2 H2 S2 σ2 v T s2 r2 => q G2 H2 S2 σ2 v T (s1.trans s2) r2
theorem vs_try_only (hs : X.stack = X.env :: X.outer) (hf : X.env.frame = some X.env.locals) (hc : Names X x c) (tk : Takes X W)
    (hb : ∀ (W' : WX) (pn : List (Addr × Obj)) (xe : Value → Shared → Prop), Takes (X.tr pn xe) W' → PassesOwn (model X.prog X.w) X.A X.env xe → VSs (X.tr pn xe) W' body tb)
    (hsu : ∀ (a : Addr) (oe : Obj) (cls : Value) (d : Option Addr) (pn : List (Addr × Obj)) (y : Exn), Zc cls d oe → (∃ vs, oe.data = .fields vs) → Held X.K y cls d → VSs (X.suite a ((a, oe) :: pn)) W0 (b₀ :: suite) (ts y a)) :
    VS X W (.Try body [.ExceptHandler (some (.Name x np)) none (b₀ :: suite) pos'] [] [] pos) (sTryOnly X.K c tb ts) := by
  refine psI (ps_try_only (tb := fun W' => upS X.K W' tb) (ts := fun a cls d E σ H => ∃ y, Held X.K y cls d ∧ upS X.K W0 (ts y a) E σ H) hs hf hc tk hb fun a oe cls d pn hz hfl => ?_) fun E σ H ⟨G, B, Φ, As, S, ρ, rp, q⟩ => ?_
  · exact ⟨fun pins s σ H E I ⟨y, hh, h⟩ => (hsu a oe cls d pn y hz hfl hh).run pins s σ H E I h⟩
  · refine ⟨G, B, Φ, As, S, ρ, rp, ?_⟩
    unfold sTryOnly at q
    cases ht : tb ρ with
    | no => rw [ht] at q; exact q.elim
    | nx ρ1 => rw [ht] at q; exact q
    | rt d ρ1 => rw [ht] at q; exact q
    | bk ρ1 => rw [ht] at q; exact q
    | ct ρ1 => rw [ht] at q; exact q
    | ex x ρ1 =>
      rw [ht] at q
      simp only at q
      intro G1 H1 S1 σ1 cls dx s1 r1 er
      have ec : cls = x.cls := er.1
      subst ec
      cases hx : PySem.W.exmOne X.K x.cls c with
      | none => rw [hx] at q; exact q.elim
      | some b =>
        rw [hx] at q
        cases b with
        | false => exact ⟨false, hx, (fun z => by cases z), fun _ => q G1 H1 S1 σ1 _ dx s1 r1 er⟩
        | true =>
          refine ⟨true, hx, fun _ a ha => ?_, fun z => by cases z⟩
          refine ⟨x, ⟨rfl, fun hn => by have := er.2; rw [hn] at this; exact this⟩, G1, B, Φ, As, S1, ρ1, r1, ?_⟩
          simp only at q
          have hne : allA (fun a => (ts x a ρ1).calm) ≠ .no := fun z => by rw [z] at q; exact q
          rw [← allA_at hne a] at q
          cases hts : ts x a ρ1 with
          | no => rw [hts] at q; exact q.elim
          | ex y ρ2 => rw [hts] at q; exact q.elim
          | nx ρ2 => rw [hts] at q; exact fun G2 H2 S2 σ2 s2 r2 => q G2 H2 _ _ (s1.trans s2) r2
          | bk ρ2 => rw [hts] at q; exact fun G2 H2 S2 σ2 s2 r2 => q G2 H2 _ _ (s1.trans s2) r2
          | ct ρ2 => rw [hts] at q; exact fun G2 H2 S2 σ2 s2 r2 => q G2 H2 _ _ (s1.trans s2) r2
          | rt d ρ2 => rw [hts] at q; exact fun G2 H2 S2 σ2 v T s2 r2 => q G2 H2 S2 σ2 v T (s1.trans s2) r2
end
/-- a name of an except clause -/
theorem names_own {X : Cx} {x : Str} {C : Addr} (h : X.mg x = some (.ref C)) (hg : Gl X x := by rfl) (hd : (x == ("__debug__" : Str)) = false := by decide) : Names X x (.ref C) := ⟨hg, hd, .inl h⟩

/-! ### names of the module -/
/-- a constant of the module's top, by its tree -/
def DConst (K : PySem.W.Frag) (mg : Str → Option Value) (x : Str) (d : D) : Prop := ∃ (u : Value) (v : V), mg x = some u ∧ RelV v u ∧ d.old ∧ ∀ G B H, Dat K G B H [] v d
theorem hu65 {k : Nat} {A : Around} (hr : Room k A) : A.units + 65 < cLine := by have := hr.un; omega
theorem hu1 {k : Nat} {A : Around} (hr : Room k A) : A.units + 1 < cLine := by have := hr.un; omega
section
variable {X : Cx} {W : WX} {pos : Pos} {x : Str} {C : Addr}
theorem qe_const {d : D} (h : DConst X.K X.mg x d) (hg : Gl X x := by rfl) (hdb : (x == ("__debug__" : Str)) = false := by decide) : QE X W (.Name x pos) (qC d) := by
  obtain ⟨u, v, hm, r, n, hd⟩ := h
  exact qe_glob hm r hd n hg hdb
theorem qe_cls (hm : X.mg x = some (.ref C)) (hg : Gl X x := by rfl) (hdb : (x == ("__debug__" : Str)) = false := by decide) : QE X W (.Name x pos) (qC (.ref C)) := qe_glob (v := .ref C) hm rfl (fun _ _ _ => .ref C) (by simp [D.root]) hg hdb
theorem qe_ty {n : String} (hm : X.mg x = none) (hv : bootBuiltins x = some (.type n) := by decide +kernel) (hg : Gl X x := by rfl) (hn : x ≠ "__name__" := by decide) (hdb : (x == ("__debug__" : Str)) = false := by decide) : QE X W (.Name x pos) (qC (.ty n)) := qe_bltn (v := .ty n) hm hv rfl (fun _ _ _ => .ty n) (by simp [D.root]) hg hn hdb
end
section
variable {K : PySem.W.Frag} {mg : Str → Option Value} {h : Heap}
theorem topFn_mk {x : Str} {st : Stmt} {ps : List Str} {f : Addr} {oc : Value} {od an : Option Addr} {osl : Array (Option Value)} {kV doc pm cdv ct : Value} (X : K.In h) (G : h.Ns mainGlobals mg) (a : PySem.W.nsIn K mainGlobals x = some (some (.ref f)))
    (l : K.lookup f = some ⟨oc, od, .func (PySem.W.fnOf x x (defArgs st) (defBody st) (defScope st) .none kV doc pm an cdv ct), osl⟩) (c : PySem.W.codeIn K cdv x = true) (k : PySem.W.keepIn K (.ref f) = true)
    (b : ∀ (kV doc pm : Value) (an : Option Addr) (cdv ct : Value) (us : List Value), us.length = ps.length → bindArgs (PySem.W.fnOf x x (defArgs st) (defBody st) (defScope st) .none kV doc pm an cdv ct) ⟨us, []⟩ = pure (ps.zip us)) : TopFn K mg x st ps :=
  ⟨f, _, fun_mk l c k, PySem.W.mg_of X G a, (fun_mk (st := st) l c k).binds b⟩
theorem topMt_mk {m qual : Str} {st : Stmt} {ps : List Str} {C f : Addr} {oc : Value} {od an : Option Addr} {osl : Array (Option Value)} {kV doc pm cdv ct : Value} (a : PySem.W.findIn K (.ref C) m = some (some (.ref f))) (i : PySem.W.isFn K (.ref f) = true)
    (l : K.lookup f = some ⟨oc, od, .func (PySem.W.fnOf m qual (defArgs st) (defBody st) (defScope st) .none kV doc pm an cdv ct), osl⟩) (c : PySem.W.codeIn K cdv qual = true) (k : PySem.W.keepIn K (.ref f) = true)
    (b : ∀ (kV doc pm : Value) (an : Option Addr) (cdv ct : Value) (us : List Value), us.length = ps.length → bindArgs (PySem.W.fnOf m qual (defArgs st) (defBody st) (defScope st) .none kV doc pm an cdv ct) ⟨us, []⟩ = pure (ps.zip us)) : TopMt K C m qual st ps :=
  ⟨f, _, fun_mk l c k, ⟨a, i, k⟩, (fun_mk (st := st) l c k).binds b⟩
theorem const_str {x : Str} {z : Str} {t : Tok} (X : K.In h) (G : h.Ns mainGlobals mg) (a : PySem.W.nsIn K mainGlobals x = some (some (.str z t))) : DConst K mg x (.str z) := ⟨_, .str z, PySem.W.mg_of X G a, ⟨t, rfl⟩, by simp [D.root], fun _ _ _ => .str z⟩
theorem const_int {x : Str} {z : Int} {t : Tok} (X : K.In h) (G : h.Ns mainGlobals mg) (a : PySem.W.nsIn K mainGlobals x = some (some (.int z t))) : DConst K mg x (.int z) := ⟨_, .int z, PySem.W.mg_of X G a, ⟨t, rfl⟩, by simp [D.root], fun _ _ _ => .int z⟩
/-- a tuple of flat things -/
inductive FlatIs : Value → V → D → Prop
  | str (z : Str) (t : Tok) : FlatIs (.str z t) (.str z) (.str z)
  | int (z : Int) (t : Tok) : FlatIs (.int z t) (.int z) (.int z)
inductive FlatsAre : List Value → List V → List D → Prop
  | nil : FlatsAre [] [] []
  | cons {u : Value} {v : V} {d : D} {us : List Value} {vs : List V} {ds : List D} (h : FlatIs u v d) (t : FlatsAre us vs ds) : FlatsAre (u :: us) (v :: vs) (d :: ds)
theorem FlatsAre.vals : ∀ {us : List Value} {vs : List V} {ds : List D}, FlatsAre us vs ds → Vals vs us
  | _, _, _, .nil => .nil
  | _, _, _, .cons (.str z t) r => .cons ⟨t, rfl⟩ (FlatsAre.vals r)
  | _, _, _, .cons (.int z t) r => .cons ⟨t, rfl⟩ (FlatsAre.vals r)
theorem FlatsAre.dats {G B H : Hp} : ∀ {us : List Value} {vs : List V} {ds : List D}, FlatsAre us vs ds → Dats K G B H [] vs ds
  | _, _, _, .nil => .nil
  | _, _, _, .cons (.str z t) r => .cons (S := []) (by simp [D.root]) (.str z) (FlatsAre.dats r)
  | _, _, _, .cons (.int z t) r => .cons (S := []) (by simp [D.root]) (.int z) (FlatsAre.dats r)
theorem const_tup {x : Str} {p : Addr} {us : List Value} {n : Nat} {dd : Option Addr} {sl : Array (Option Value)} {vs : List V} {ds : List D} (X : K.In h) (G : h.Ns mainGlobals mg) (a : PySem.W.nsIn K mainGlobals x = some (some (.ref p))) (l : K.lookup p = some ⟨.type "tuple", dd, .seq us.toArray n, sl⟩) (f : FlatsAre us vs ds) (hz : us.length ≤ sizeLine) : DConst K mg x (.tuk ds) :=
  ⟨_, .ref p, PySem.W.mg_of X G a, rfl, by simp [D.root], fun G B H => .tuk (.inr ⟨_, us.toArray, n, l, rfl, rfl, by simpa using hz, by simpa using f.vals⟩) f.dats⟩
end
section
variable {K : PySem.W.Frag} {a b : Addr} {r : Bool} {T : String} {cs : List Value}
theorem kc_own (i : PySem.W.isClsIn K b = true) (t : PySem.W.typeIn K (.ref b) = some (.type "type")) (s : PySem.W.subIn K (.ref a) (.ref b) = some r) : PySem.W.kitCls K (.ref a) (.ref b) = some r := by
  have i' : (PySem.W.clsIn K b).isSome = true := i
  unfold PySem.W.kitCls
  dsimp only
  rw [i', t, s]
  rfl
theorem exm_own (bb : PySem.W.subIn K (.ref b) (.type "BaseException") = some true) (i : PySem.W.isClsIn K b = true) (t : PySem.W.typeIn K (.ref b) = some (.type "type")) (s : PySem.W.subIn K (.ref a) (.ref b) = some r) : PySem.W.exmOne K (.ref a) (.ref b) = some r := by
  unfold PySem.W.exmOne
  rw [bb, kc_own i t s]
  rfl
theorem kit_own (i : PySem.W.isClsIn K b = true) (t : PySem.W.typeIn K (.ref b) = some (.type "type")) (bs : PySem.W.subIn K (.ref b) (.ref b) = some true) (s : PySem.W.subIn K (.ref a) (.ref b) = some r) : PySem.W.kitOne K (.ref a) (.ref b) = some r := by
  unfold PySem.W.kitOne
  split
  · rename_i e
    have e' : a = b := by
      have := eq_of_beq e
      cases this; rfl
    subst e'
    rw [← s, bs]
  · exact kc_own i t s
theorem kit_tyE (m : PySem.W.kitMeta T = true) (s : PySem.W.subIn K (.ref a) (.type T) = some r) : PySem.W.kitOne K (.ref a) (.type T) = some r := by
  unfold PySem.W.kitOne
  rw [if_neg (by simp)]
  unfold PySem.W.kitCls
  dsimp only
  rw [if_pos m, s]
theorem kita_nil : PySem.W.kitAny K (.ref a) [] = some false := rfl
theorem kita_cons (h : PySem.W.kitOne K (.ref a) (.ref b) = some false) (t : PySem.W.kitAny K (.ref a) cs = some false) : PySem.W.kitAny K (.ref a) (.ref b :: cs) = some false := by
  unfold PySem.W.kitAny
  rw [h]
  exact t
end
theorem room_tr {X : Cx} {k : Nat} {pn : List (Addr × Obj)} {xe : Value → Shared → Prop} (h : Room k X.A) : Room k (X.tr pn xe).A := h
theorem VFn.le {P : Program} {w : World} {K : PySem.W.Frag} {mg : Str → Option Value} {base : Heap} {x : Str} {k : Nat} {ms : List Md} {F F' : Fn} (h : VFn P w K mg base x k ms F) (e : F = F') : VFn P w K mg base x k ms F' := e ▸ h
end VL

/-! VMb: what lives in a loop's round alone. -/
namespace VL
open PySem PySem.Spec PyProof.Rows L2
def OS.killO (is : List Nat) : OS → OS
  | .nx ρ => .nx (ρ.kill is)
  | .bk ρ => .bk (ρ.kill is)
  | .ct ρ => .ct (ρ.kill is)
  | o => o
def sKillO (is : List Nat) (a : FS) : FS := fun ρ => (a ρ).killO is
theorem vss_killO {X : Cx} {W : WX} {is : List Nat} {st : List Stmt} {f : FS} (h : VSs X W st f) : VSs X W st (sKillO is f) := pssI h fun E σ H ⟨G, B, Φ, As, S, ρ, rp, q⟩ => by
  refine ⟨G, B, Φ, As, S, ρ, rp, ?_⟩
  unfold sKillO at q
  cases e : f ρ with
  | no => rw [e] at q; exact q
  | rt d ρ1 => rw [e] at q; exact q
  | ex x ρ1 => rw [e] at q; exact q
  | nx ρ1 => rw [e] at q; exact fun G1 H1 S1 σ1 s1 r1 => let ⟨S2, r2⟩ := r1.kill is; q G1 H1 S2 σ1 s1 r2
  | bk ρ1 => rw [e] at q; exact fun G1 H1 S1 σ1 s1 r1 => let ⟨S2, r2⟩ := r1.kill is; q G1 H1 S2 σ1 s1 r2
  | ct ρ1 => rw [e] at q; exact fun G1 H1 S1 σ1 s1 r1 => let ⟨S2, r2⟩ := r1.kill is; q G1 H1 S2 σ1 s1 r2
theorem up_chain {K : PySem.W.Frag} {W : WX} {fa fb fc : FQ} {r r' : R2} {f g : D → D → Out Exn D} (hv : V2 K r f) (hv' : V2 K r' g) {σ : L2.St} {H : Hp} {R : VK} (h : upQ K W (qChain f g fa fb fc) σ H R) : tChain r r' (upQ K W fa) (upQ K W fb) (upQ K W fc) σ H R := by
  obtain ⟨G, B, As, ρ, so, q⟩ := h
  exact upQ_bind so q fun d G1 H1 v e1 hd fr q1 => upQ_bind (so.ext e1) (Out.P_mono q1 (fun _ k => KQ.ext e1 k) fun _ z => EX.ext e1 z) fun d2 G2 H2 v2 e2 hd2 fr2 q2 =>
    have so2 := (so.ext e1).ext e2
    hv.go G2 B H2 v v2 d d2 _ e2.gh so2.bh (Dt.ext e2 hd) hd2 (Out.P_mono (pure_P (Out.P_bind.mp q2)) (fun dz q3 G3 H3 z e3 hz _ => by
      cases dz with
      | bl k =>
        refine ⟨k, dt_bl hz, ?_⟩
        cases k with
        | false => exact iteF (q3 G3 H3 _ (e2.trans e3) ⟨_, .bl false⟩ (Fresh.of (by simp [D.root])))
        | true => exact iteT (upQ_bind (so2.ext e3) (Out.P_mono q3 (fun _ k => KQ.ext (e2.trans e3) k) fun _ z => EX.ext (e2.trans e3) z) fun d4 G4 H4 v4 e4 hd4 fr4 q4 =>
            hv'.go G4 B H4 v2 v4 d2 d4 R e4.gh ((so2.ext e3).ext e4).bh (Dt.ext (e3.trans e4) hd2) hd4 (Out.P_mono (pure_P q4) (fun _ k => k.ext e4) fun _ z => z))
      | _ => exact q3.elim) fun _ z => z)
theorem qt_chain {X : Cx} {W : WX} {a b c : Expr} {fa fb fc : FQ} {pos : Pos} {op op' : CmpOp} {r r' : R2} {f g : D → D → Out Exn D} (ho : OpR X (compareOp op) r) (ho' : OpR X (compareOp op') r') (hv : V2 X.K r f) (hv' : V2 X.K r' g) (ha : QE X W a fa) (hb : QE X W b fb) (hc : QE X W c fc)
    (hm : lastMarks [op, op'] [b, c] = false := by with_unfolding_all rfl) : QT X W (.Compare a [op, op'] [b, c] pos) (tV (qChain f g fa fb fc)) := ptI (pt_chain ho ho' ha hb hc hm) fun σ H R h => up_chain hv hv' (up_b h)
end VL

/-! VMc: a loop that takes the elements of a list out. -/
namespace VL
open PySem PySem.Spec PyProof.Rows L2

def sForMv (i : Nat) (tg : Tg) (body : FS) : FS := fun ρ => match ρ.s[i]? with
  | some (.val (.lst .own ds)) => forV tg body ds (ρ.setS i .no)
  | _ => .no
theorem TOk.unhold {T U : List Addr} {S : Pi → List Addr} {G Φ H H0 : Hp} (t : TOk T S G (hold Φ U H0) H) (hU : ∀ a ∈ U, Φ a = none) : TOk T S G Φ H := ⟨t.1, fun a m => by
  obtain ⟨h1, h2, h3, h4⟩ := t.2 a m
  refine ⟨h1, h2, ?_, h4⟩
  by_cases z : a ∈ U
  · exact hU a z
  · rw [hold_ne z] at h3; exact h3⟩
/-- the region aside, behind what has gone on -/
theorem hold_tok {K : PySem.W.Frag} {G B Φ H0 G2 H2 : Hp} {As : List V} {S0 S2 : Pi → List Addr} {σ2 : L2.St} {ρ2 : Plc} {U : List Addr} (t : TOk U S0 G Φ H0) (r2 : VRep K G2 B (hold Φ U H0) H2 As S2 σ2 ρ2) : On U H0 H2 ∧ TOk U S2 G2 Φ H2 := by
  have on : On U H0 H2 := fun a m o e => r2.ph a o (by rw [hold_at m]; exact e)
  refine ⟨on, t.1, fun a m => ?_⟩
  obtain ⟨_, _, h3, o, h4, h5⟩ := t.2 a m
  have e : hold Φ U H0 a = some o := by rw [hold_at m]; exact h4
  refine ⟨fun i z => ?_, r2.dis a o e, h3, o, on a m o h4, h5⟩
  rw [(r2.fr i a z).2.1] at e; cases e
theorem vs_forMv {X : Cx} {W : WX} {i : Nat} {x : Str} {p pos : Pos} {tgx : Expr} {body : List Stmt} {tg : Tg} {tb : FS} (hp : PassesOwn (model X.prog X.w) X.A X.env X.xe) (hc : X.calm = true) (hg : PG X tgx (tg.rd X.K)) (hb : VSs X W body tb)
    (hN : X.N[i]? = some x := by rfl) (hv : Vis X.env.scope x := by first | exact Or.inl rfl | exact Or.inr (Or.inl rfl) | exact Or.inr (Or.inr rfl)) (hd : (x == ("__debug__" : Str)) = false := by decide) (hcd : (x == ("__classdict__" : Str)) = false := by decide)
    (hs : ∀ y, foldedSetIterable (.Name x p) X.env y = pure y := by intro _; rfl) : VS X W (.For tgx (.Name x p) body [] pos) (sForMv i tg tb) := psI (ps_for hp hc (pi_list (pe_var hN hv hd hcd)) hg hb hs) fun E σ H ⟨G, B, Φ, As, S, ρ, rp, q⟩ => by
  unfold sForMv at q
  cases hi : ρ.s[i]? with
  | none => rw [hi] at q; exact q.elim
  | some sl =>
    rw [hi] at q
    split at q
    case h_2 => exact q.elim
    rename_i ds heq
    cases heq
    obtain ⟨v, h1, n, h2, r', t⟩ := rp.take hi
    generalize hSi : S (.inl i) = Si at h2 t
    cases h2 with
    | @lst U _ a vs _ nd hds =>
      have tp : TOk [a] (setS S (.inl i) []) G Φ H := ⟨by simp, fun b m => t.2 b (List.mem_append_left _ (by simpa [Fl.ad] using m))⟩
      have tU : TOk U (setS S (.inl i) []) G Φ H := ⟨(List.nodup_append.mp t.1).2.1, fun b m => t.2 b (List.mem_append_right _ m)⟩
      have naU : ∀ b ∈ U, b ≠ a := fun b m e => (List.nodup_append.mp t.1).2.2 a (by simp [Fl.ad]) b m e.symm
      have r1 := r'.more tp
      have sm : Same G (more G H [a]) := more_same fun b m => (tp.2 b m).2.1
      have ga : more G H [a] a = some (.lst vs) := by rw [more_at (by simp)]; exact nd
      have tU1 : TOk U (setS S (.inl i) []) (more G H [a]) Φ H := ⟨tU.1, fun b m => by
        obtain ⟨q1, q2, q3⟩ := tU.2 b m
        refine ⟨q1, ?_, q3⟩
        unfold more
        rw [if_neg (by simpa using naU b m)]
        exact q2⟩
      refine ⟨.ref a, h1, a, rfl, ⟨vs, SqL.of nd⟩, fun k m σ' H' => m = ds.length - k ∧ k ≤ ds.length ∧ ∃ G' S' ρ' U', Same (more G H [a]) G' ∧ VRep X.K G' B Φ H' As S' σ' ρ' ∧ Dats X.K G' B H' U' (vs.drop k) (ds.drop k) ∧ TOk U' S' G' Φ H' ∧ (forV tg tb (ds.drop k) ρ').End X.K W G B Φ As E, ⟨ds.length, by simp, Nat.zero_le _, _, _, _, U, fun _ _ e => e, r1, by simpa using hds.mono sm (fun _ _ q => q) (On.of fun _ _ q => q), tU1, q⟩, ?_⟩
      rintro k m σ' H' ⟨rfl, hle, G', S', ρ', U', s', r', hd', t', q'⟩
      have hq : SqL X.K H' a vs := SqL.of (r'.gh _ _ (s' _ _ ga))
      have hlen : vs.length = ds.length := hds.length
      by_cases hk : k < ds.length
      · have hkv : k < vs.length := by omega
        rw [List.drop_eq_getElem_cons hk] at q' hd'
        rw [List.drop_eq_getElem_cons hkv] at hd'
        simp only [forV] at q'
        refine .inr ⟨⟨vs, vs[k], hq, by simp [hkv]⟩, fun σ2 H2 => ∃ G2 S2 ρ2 U2, Same (more G H [a]) G2 ∧ VRep X.K G2 B Φ H2 As S2 σ2 ρ2 ∧ Dats X.K G2 B H2 U2 (vs.drop (k + 1)) (ds.drop (k + 1)) ∧ TOk U2 S2 G2 Φ H2 ∧ (forV tg tb (ds.drop (k + 1)) ρ2).End X.K W G B Φ As E, fun σ2 H2 z => ⟨ds.length - (k + 1), by omega, rfl, hk, z⟩, fun y H'' ⟨e1, e2⟩ => ?_⟩
        subst e1
        have e3 := e2 vs hq
        rw [show vs[k]? = some vs[k] by simp [hkv]] at e3
        cases e3
        cases hd' with
        | @cons T0 U0 _ _ _ _ n0 h0 tl =>
          cases ep : tg.put ds[k] ρ' with
          | none => rw [ep] at q'; exact q'.elim
          | some ρ1 =>
            rw [ep] at q'
            simp only at q'
            refine Tg.ok tg (U := U0) r' h0 n0 t' ep fun S3 σ3 r3 t3 => ?_
            have bp := r'.bp
            have hU : ∀ b ∈ U0, Φ b = none := fun b m => (t3.2 b m).2.2.1
            refine ⟨G', B, hold Φ U0 _, As, S3, ρ1, r3.hold t3, ?_⟩
            have s2 : Same G G' := sm.trans s'
            cases eb : tb ρ1 with
            | nx ρ2 =>
              rw [eb] at q'
              intro G4 H4 S4 σ4 s4 r4
              obtain ⟨on, t4⟩ := hold_tok t3 r4
              exact ⟨G4, S4, ρ2, U0, s'.trans s4, r4.unhold bp hU, tl.mono s4 (fun _ _ q => q) on, t4, q'⟩
            | ct ρ2 =>
              rw [eb] at q'
              intro G4 H4 S4 σ4 s4 r4
              obtain ⟨on, t4⟩ := hold_tok t3 r4
              exact ⟨G4, S4, ρ2, U0, s'.trans s4, r4.unhold bp hU, tl.mono s4 (fun _ _ q => q) on, t4, q'⟩
            | bk ρ2 => rw [eb] at q'; exact fun G4 H4 S4 σ4 s4 r4 => q' G4 H4 S4 σ4 (s2.trans s4) (r4.unhold bp hU)
            | rt d ρ2 => rw [eb] at q'; exact fun G4 H4 S4 σ4 v T s4 r4 hd4 n4 t4 => q' G4 H4 S4 σ4 v T (s2.trans s4) (r4.unhold bp hU) hd4 n4 (t4.unhold hU)
            | ex e ρ2 => rw [eb] at q'; exact fun G4 H4 S4 σ4 cls dx s4 r4 => q' G4 H4 S4 σ4 cls dx (s2.trans s4) (r4.unhold bp hU)
            | no => rw [eb] at q'; exact q'.elim
      · rw [List.drop_of_length_le (by omega)] at q'
        exact .inl ⟨⟨vs, hq, by omega⟩, q' G' H' S' σ' (sm.trans s') r'⟩
end VL

/-! VMd: how the functions are reckoned, from the left. -/
namespace VL
open PySem PySem.Spec PyProof.Rows L2

section
variable {ε α β : Type}
theorem bind_ok {a : α} {f : α → Out ε β} : (Out.ok a : Out ε α).bind f = f a := rfl
theorem bind_ex {e : ε} {f : α → Out ε β} : (Out.ex e : Out ε α).bind f = .ex e := rfl
theorem bind_no {f : α → Out ε β} : (Out.no : Out ε α).bind f = .no := rfl
theorem pure_ok {a : α} : (Out.ok a : Out Exn α).pure = .ok a := rfl
theorem pure_ex {e : Exn} : (Out.ex e : Out Exn α).pure = .no := rfl
theorem pure_no : (Out.no : Out Exn α).pure = .no := rfl
theorem seqE_ok {x : α × Plc} {k : α → Plc → OS} : seqE (.ok x) k = k x.1 x.2 := rfl
theorem seqE_ex {x : Exn × Plc} {k : α → Plc → OS} : seqE (.ex x) k = .ex x.1 x.2 := rfl
theorem seqE_no {k : α → Plc → OS} : seqE (.no) k = .no := rfl
end
theorem seqS_nx {ρ : Plc} {k : FS} : seqS (.nx ρ) k = k ρ := rfl
theorem seqS_rt {d : D} {ρ : Plc} {k : FS} : seqS (.rt d ρ) k = .rt d ρ := rfl
theorem seqS_ex {x : Exn} {ρ : Plc} {k : FS} : seqS (.ex x ρ) k = .ex x ρ := rfl
theorem seqS_bk {ρ : Plc} {k : FS} : seqS (.bk ρ) k = .bk ρ := rfl
theorem seqS_ct {ρ : Plc} {k : FS} : seqS (.ct ρ) k = .ct ρ := rfl
theorem seqS_no {k : FS} : seqS .no k = .no := rfl
section
variable {ρ : Plc} {a b : FS} {ga gb : FG} {fa fb fc : FQ} {t u : FGT} {tt uu : FT} {gs : FGA} {gl : FL} {fas : FA} {f : D → D → Out Exn D} {i : Nat} {is : List Nat}
-- statements
theorem sNext_ap : sNext ρ = .nx ρ := rfl
theorem sBreak_ap : sBreak ρ = .bk ρ := rfl
theorem sCont_ap : sCont ρ = .ct ρ := rfl
theorem sRetN_ap : sRetN ρ = .rt .non ρ := rfl
theorem sSeq_ap : sSeq a b ρ = seqS (a ρ) b := rfl
theorem sDrop_ap : sDrop ga ρ = seqE (ga ρ) fun _ ρ1 => .nx ρ1 := rfl
theorem sRet_ap : sRet ga ρ = seqE (ga ρ) fun d ρ1 => .rt d ρ1 := rfl
theorem sSet_ap : sSet i ga ρ = seqE (ga ρ) fun d ρ1 => .nx (ρ1.setS i (.val d)) := rfl
def condS (a b : FS) (c : Bool) : FS := fun ρ => if c = true then a ρ else b ρ
theorem sIf_ap : sIf t a b ρ = seqE (t ρ) (condS a b) := rfl
theorem condS_t : condS a b true ρ = a ρ := rfl
theorem condS_f : condS a b false ρ = b ρ := rfl
theorem sKillO_ap : sKillO is a ρ = (a ρ).killO is := rfl
theorem killO_nx : (OS.nx ρ).killO is = .nx (ρ.kill is) := rfl
theorem killO_bk : (OS.bk ρ).killO is = .bk (ρ.kill is) := rfl
theorem killO_ct : (OS.ct ρ).killO is = .ct (ρ.kill is) := rfl
theorem killO_rt {d : D} : (OS.rt d ρ).killO is = .rt d ρ := rfl
theorem killO_ex {x : Exn} : (OS.ex x ρ).killO is = .ex x ρ := rfl
theorem kill_cons {k : Nat} : ρ.kill (k :: is) = (ρ.setS k .no).kill is := rfl
theorem kill_nil : ρ.kill [] = ρ := rfl
def asgK (tg : Tg) (d : D) : FS := fun ρ1 => match tg.put d ρ1 with
  | some ρ2 => .nx ρ2
  | none => .no
theorem sAsg_ap {tg : Tg} : sAsg tg ga ρ = seqE (ga ρ) (asgK tg) := rfl
theorem asgK_ap {tg : Tg} {d : D} : asgK tg d ρ = match tg.put d ρ with
  | some ρ2 => .nx ρ2
  | none => .no := rfl
theorem sRaise_ap {C : Addr} : sRaise C ρ = .ex ⟨.ref C, none⟩ ρ := rfl
def forK (tg : Tg) (body : FS) (ds : List D) : FS := forV tg body ds
theorem sFor_ap {gi : FGI} {tg : Tg} : sFor gi tg a ρ = seqE (gi ρ) (forK tg a) := rfl
theorem forK_ap {tg : Tg} {ds : List D} : forK tg a ds ρ = forV tg a ds ρ := rfl
theorem sForMv_val {s : List Sl} {A : List (Option D)} {tg : Tg} {ds : List D} (h : s[i]? = some (.val (.lst .own ds))) : sForMv i tg a ⟨s, A⟩ = forV tg a ds ((⟨s, A⟩ : Plc).setS i .no) := by unfold sForMv; rw [show (⟨s, A⟩ : Plc).s = s from rfl, h]
-- places
theorem setS_mk {s : List Sl} {A : List (Option D)} {x : Sl} : (⟨s, A⟩ : Plc).setS i x = ⟨s.set i x, A⟩ := rfl
theorem setA_mk {s : List Sl} {A : List (Option D)} {x : Option D} : (⟨s, A⟩ : Plc).setA i x = ⟨s, A.set i x⟩ := rfl
def lookS (A : List (Option D)) : Option Sl → Option D
  | some (.val d) => some d
  | some (.arg j) => (A[j]?).bind id
  | _ => none
theorem look_mk {s : List Sl} {A : List (Option D)} : look ⟨s, A⟩ i = lookS A (s[i]?) := by unfold look lookS; split <;> simp_all
theorem lookS_val {A : List (Option D)} {d : D} : lookS A (some (.val d)) = some d := rfl
theorem lookS_arg {A : List (Option D)} {j : Nat} : lookS A (some (.arg j)) = (A[j]?).bind id := rfl
def oD : Option D → Out Exn D
  | some d => .ok d
  | none => .no
theorem qV_ap : qV i ρ = oD (look ρ i) := rfl
theorem oD_some {d : D} : oD (some d) = .ok d := rfl
def lcS (i : Nat) : Option Sl → Option Lc
  | some (.val _) => some (.s i)
  | some (.arg j) => some (.a j)
  | _ => none
theorem lc_mk {s : List Sl} {A : List (Option D)} : (⟨s, A⟩ : Plc).lc i = lcS i (s[i]?) := by unfold Plc.lc lcS; split <;> simp_all
theorem lcS_val {d : D} : lcS i (some (.val d)) = some (.s i) := rfl
theorem lcS_arg {j : Nat} : lcS i (some (.arg j)) = some (.a j) := rfl
theorem get_s {s : List Sl} {A : List (Option D)} : (⟨s, A⟩ : Plc).get (.s i) = (match s[i]? with
  | some (.val d) => some d
  | _ => none) := rfl
theorem get_a {s : List Sl} {A : List (Option D)} : (⟨s, A⟩ : Plc).get (.a i) = (A[i]?).bind id := rfl
theorem rm_s : ρ.rm (.s i) = ρ.setS i .no := rfl
theorem rm_a : ρ.rm (.a i) = ρ.setA i none := rfl
theorem put_s {d : D} : ρ.put (.s i) d = ρ.setS i (.val d) := rfl
theorem put_a {d : D} : ρ.put (.a i) d = ρ.setA i (some d) := rfl
theorem view_mk {s : List Sl} {A : List (Option D)} : (⟨s, A⟩ : Plc).view = ⟨s.map Sl.view, A.map (Option.map D.view)⟩ := rfl
theorem Sl.view_val {d : D} : Sl.view (.val d) = .val d.view := rfl
theorem Sl.view_arg {j : Nat} : Sl.view (.arg j) = .arg j := rfl
theorem Sl.view_no : Sl.view .no = .no := rfl
theorem wipe_nil : ρ.wipe [] = ρ := rfl
theorem wipe_cons {k : Nat} {vs : List Nat} : ρ.wipe (k :: vs) = (ρ.wipe vs).setS k .no := rfl
-- quiet
theorem qC_ap {d : D} : qC d ρ = .ok d := rfl
theorem qOp_ap : qOp f fa fb ρ = (fa ρ).bind fun x => (fb ρ).bind fun y => (f x y).pure := rfl
theorem qUn_ap {g : D → Out Exn D} : qUn g fa ρ = (fa ρ).bind fun x => (g x).pure := rfl
theorem qCB_ap {g : List D → Out Exn D} : qCB g fas ρ = (fas ρ).bind fun xs => (g xs).pure := rfl
theorem aNil_ap : aNil ρ = .ok [] := rfl
theorem aCons_ap : aCons fa fas ρ = (fa ρ).bind fun d => (fas ρ).bind fun ds => .ok (d :: ds) := rfl
theorem tV_ap : tV fa ρ = (fa ρ).bind toB := rfl
theorem tNot_ap : tNot tt ρ = (tt ρ).bind fun b => .ok (!b) := rfl
def condT (uu : FT) (ρ : Plc) (z : Bool) (b : Bool) : Out Exn Bool := if b = z then uu ρ else .ok (!z)
theorem tAnd_ap : tAnd tt uu ρ = (tt ρ).bind (condT uu ρ true) := by unfold tAnd condT; rfl
theorem tOr_ap : tOr tt uu ρ = (tt ρ).bind (condT uu ρ false) := by
  unfold tOr condT
  congr 1
  funext b
  cases b <;> rfl
theorem condT_y {z : Bool} : condT uu ρ z z = uu ρ := by unfold condT; rw [if_pos rfl]
theorem condT_tf : condT uu ρ true false = .ok false := rfl
theorem condT_ft : condT uu ρ false true = .ok true := rfl
theorem tYes_ap : tYes ρ = .ok true := rfl
theorem qNot_ap : qNot fa ρ = (fa ρ).bind fun d => (toB d).bind fun b => .ok (.bl (!b)) := rfl
def condQ (fb : FQ) (ρ : Plc) (z : Bool) (b : Bool) : Out Exn D := if b = z then fb ρ else .ok (.bl (!z))
theorem qAnd_ap : qAnd fa fb ρ = (fa ρ).bind fun d => (toB d).bind (condQ fb ρ true) := rfl
theorem qOr_ap : qOr fa fb ρ = (fa ρ).bind fun d => (toB d).bind (condQ fb ρ false) := by
  unfold qOr condQ
  congr 1
  funext d
  congr 1
  funext b
  cases b <;> rfl
theorem condQ_y {z : Bool} : condQ fb ρ z z = fb ρ := by unfold condQ; rw [if_pos rfl]
theorem condQ_tf : condQ fb ρ true false = .ok (.bl false) := rfl
theorem condQ_ft : condQ fb ρ false true = .ok (.bl true) := rfl
def pickQ (fa fb : FQ) (ρ : Plc) (b : Bool) : Out Exn D := if b = true then fa ρ else fb ρ
theorem qIf_ap : qIf tt fa fb ρ = (tt ρ).bind (pickQ fa fb ρ) := rfl
theorem pickQ_t : pickQ fa fb ρ true = fa ρ := rfl
theorem pickQ_f : pickQ fa fb ρ false = fb ρ := rfl
theorem qTup_ap : qTup fas ρ = (fas ρ).bind mkTup := rfl
theorem qLst_ap : qLst fas ρ = (fas ρ).bind mkLst := rfl
theorem qFld_ap {C : Addr} {x : Str} : qFld C x fa ρ = (fa ρ).bind (fldD C x) := rfl
theorem oNone_ap : oNone ρ = .ok none := rfl
theorem oSome_ap : oSome fa ρ = (fa ρ).bind fun d => (toI d).bind fun i => .ok (some i) := rfl
theorem qSl_ap {g : D → Option Int → Option Int → Out Exn D} {fl fh : FO} : qSl g fa fl fh ρ = (fa ρ).bind fun x => (fl ρ).bind fun l => (fh ρ).bind fun h => (g x l h).pure := rfl
theorem qLc_ap {fi : FI} {tg : Tg} {vs : List Nat} : qLc fi tg tt fa vs ρ = (fi ρ).bind fun ds => (compV tg tt fa (ρ.wipe vs) ds).bind mkLc := rfl
theorem iSeq_ap : iSeq fa ρ = (fa ρ).bind fun d => ofO (itemsD d) := rfl
theorem iRange_ap {r : List D → Option (List D)} : iRange r fas ρ = (fas ρ).bind fun xs => ofO (r xs) := rfl
theorem qCall_ap {ms : List Md} {F : Fn} : qCall ms F fas ρ = (fas ρ).bind (callQ ms F) := rfl
theorem qMeth_ap {C : Addr} {m : Str} {ms : List Md} {F : Fn} : qMeth C m ms F fa fas ρ = (fa ρ).bind fun o => if isObj C m o = true then (fas ρ).bind fun ds => callQ ms F (o :: ds) else .no := rfl
theorem qM1_ap {g : D → List D → Out Exn D} : qM1 g fa fb ρ = (fa ρ).bind fun o => if isStr o = true then (fb ρ).bind fun y => (g o [y]).pure else .no := rfl
-- with changes
def liftO (o : Out Exn D) (ρ : Plc) : Out (Exn × Plc) (D × Plc) := match o with
  | .ok d => if d.free = true then .ok (d.up, ρ) else .no
  | .ex x => .ex (x, ρ)
  | .no => .no
theorem gQ_ap : gQ fa ρ = liftO (fa ρ) ρ := rfl
theorem liftO_ok {d : D} : liftO (.ok d) ρ = if d.free = true then .ok (d.up, ρ) else .no := rfl
theorem liftO_ex {x : Exn} : liftO (.ex x) ρ = .ex (x, ρ) := rfl
def liftT (o : Out Exn Bool) (ρ : Plc) : Out (Exn × Plc) (Bool × Plc) := match o with
  | .ok d => .ok (d, ρ)
  | .ex x => .ex (x, ρ)
  | .no => .no
theorem gQT_ap : gQT tt ρ = liftT (tt ρ) ρ := rfl
theorem liftT_ok {b : Bool} : liftT (.ok b) ρ = .ok (b, ρ) := rfl
theorem liftT_ex {x : Exn} : liftT (.ex x) ρ = .ex (x, ρ) := rfl
theorem gMove_mk {s : List Sl} {A : List (Option D)} : gMove i ⟨s, A⟩ = (match s[i]? with
  | some (.val d) => .ok (d, ⟨s.set i .no, A⟩)
  | _ => .no) := rfl
theorem gFz_mk {s : List Sl} {A : List (Option D)} : gFz i ⟨s, A⟩ = (match s[i]? with
  | some (.val d) => .ok (d.fz, ⟨s.set i (.val d.fz), A⟩)
  | _ => .no) := rfl
def gOpK (f : D → D → Out Exn D) (gb : FG) (x : D × Plc) : Out (Exn × Plc) (D × Plc) := if x.1.noOwn = true then (gb x.2).bind fun y => finG (f x.1 y.1) y.2 else .no
theorem gOp_ap : gOp f ga gb ρ = (ga ρ).bind (gOpK f gb) := rfl
theorem gOpK_ap {d : D} : gOpK f gb (d, ρ) = if d.noOwn = true then (gb ρ).bind fun y => finG (f d y.1) y.2 else .no := rfl
theorem gUn_ap {g : D → Out Exn D} : gUn g ga ρ = (ga ρ).bind fun x => finG (g x.1) x.2 := rfl
theorem gCB_ap {g : List D → Out Exn D} : gCB g gs ρ = (gs ρ).bind fun x => finG (g x.1) x.2 := rfl
theorem finG_ok {d : D} : finG (.ok d) ρ = if d.free = true then .ok (d.up, ρ) else .no := rfl
theorem gNil_ap : gNil ρ = .ok ([], ρ) := rfl
def gConsK (gs : FGA) (x : D × Plc) : Out (Exn × Plc) (List D × Plc) := (gs x.2).bind fun ds => .ok (x.1.fz :: ds.1, ds.2)
theorem gCons_ap : gCons ga gs ρ = (ga ρ).bind (gConsK gs) := rfl
theorem gConsK_ap {d : D} : gConsK gs (d, ρ) = (gs ρ).bind fun ds => .ok (d.fz :: ds.1, ds.2) := rfl
theorem lNil_ap : lNil ρ = .ok ([], ρ) := rfl
def lConsK (gl : FL) (x : D × Plc) : Out (Exn × Plc) (List D × Plc) := (gl x.2).bind fun ds => .ok (x.1 :: ds.1, ds.2)
theorem lCons_ap : lCons ga gl ρ = (ga ρ).bind (lConsK gl) := rfl
theorem lConsK_ap {d : D} : lConsK gl (d, ρ) = (gl ρ).bind fun ds => .ok (d :: ds.1, ds.2) := rfl
theorem gTupL_ap : gTupL gl ρ = (gl ρ).bind mkTupG := rfl
theorem gLstL_ap : gLstL gl ρ = (gl ρ).bind mkLstG := rfl
theorem gSt_ap : gSt ga ρ = (ga ρ).bind fun x => .ok (x.1.fz, x.2) := rfl
theorem gTV_ap : gTV ga ρ = (ga ρ).bind fun x => match x.1 with
  | .bl b => .ok (b, x.2)
  | _ => .no := rfl
theorem gNot_ap : gNot t ρ = (t ρ).bind fun b => .ok (!b.1, b.2) := rfl
def condG (u : FGT) (z : Bool) (b : Bool × Plc) : Out (Exn × Plc) (Bool × Plc) := if b.1 = z then u b.2 else .ok (!z, b.2)
theorem gAnd_ap : gAnd t u ρ = (t ρ).bind (condG u true) := rfl
theorem gOr_ap : gOr t u ρ = (t ρ).bind (condG u false) := by
  unfold gOr condG
  congr 1
  funext b
  obtain ⟨b, ρ⟩ := b
  cases b <;> rfl
theorem condG_y {z : Bool} : condG u z (z, ρ) = u ρ := by unfold condG; rw [if_pos rfl]
theorem condG_tf : condG u true (false, ρ) = .ok (false, ρ) := rfl
theorem condG_ft : condG u false (true, ρ) = .ok (true, ρ) := rfl
def pickG (ga gb : FG) (b : Bool × Plc) : Out (Exn × Plc) (D × Plc) := if b.1 = true then ga b.2 else gb b.2
theorem gIf_ap : gIf t ga gb ρ = (t ρ).bind (pickG ga gb) := rfl
theorem pickG_t : pickG ga gb (true, ρ) = ga ρ := rfl
theorem pickG_f : pickG ga gb (false, ρ) = gb ρ := rfl
theorem giSeq_ap : giSeq ga ρ = (ga ρ).bind fun x => ofOG (itemsD x.1.fz) x.2 := rfl
theorem giRange_ap {r : List D → Option (List D)} : giRange r gs ρ = (gs ρ).bind fun x => ofOG (r x.1) x.2 := rfl
theorem ofOG_some {α : Type} {x : α} : ofOG (some x) ρ = .ok (x, ρ) := rfl
theorem ofO_some {α : Type} {x : α} : ofO (some x) = .ok x := rfl
def gCallK (F : Fn) (x : List D × List (Option Lc) × Plc) : Out (Exn × Plc) (D × Plc) := afterG (F x.1) x.2.1 x.2.2
theorem gCall_ap {F : Fn} {g : FAr} : gCall F g ρ = (g ρ).bind (gCallK F) := rfl
theorem gCallK_ap {F : Fn} {es : List D} {hs : List (Option Lc)} : gCallK F (es, hs, ρ) = afterG (F es) hs ρ := rfl
theorem afterG_rt {d : D} {os : List (Option D)} {hs : List (Option Lc)} : afterG (.rt d os) hs ρ = .ok (d, putH hs os ρ) := rfl
theorem afterG_ex {x : Exn} {os : List (Option D)} {hs : List (Option Lc)} : afterG (.ex x os) hs ρ = .ex (x, putH hs os ρ) := rfl
def gMakeK (C : Addr) (F : Fn) (x : List D × List (Option Lc) × Plc) : Out (Exn × Plc) (D × Plc) := makeG (F (.obj .own C [] :: x.1)) x.2.1 x.2.2
theorem gMake_ap {C : Addr} {F : Fn} {g : FAr} : gMake C F g ρ = (g ρ).bind (gMakeK C F) := rfl
theorem gMakeK_ap {C : Addr} {F : Fn} {es : List D} {hs : List (Option Lc)} : gMakeK C F (es, hs, ρ) = makeG (F (.obj .own C [] :: es)) hs ρ := rfl
theorem makeG_rt {d : D} {os : List (Option D)} {hs : List (Option Lc)} : makeG (.rt .non (some d :: os)) hs ρ = .ok (d, putH hs os ρ) := rfl
theorem makeG_ex {x : Exn} {o : Option D} {os : List (Option D)} {hs : List (Option Lc)} : makeG (.ex x (o :: os)) hs ρ = .ex (x, putH hs os ρ) := rfl
def gLmK (f : List D → List D → Option (List D × D)) (i : Nat) (x : List D × Plc) : Out (Exn × Plc) (D × Plc) := match pNm i x.2 with
  | .ok ⟨l, .lst .own ds, put⟩ => (match f ds x.1 with
    | some (ds', d) => .ok (d, x.2.put l (put (.lst .own ds')))
    | none => .no)
  | _ => .no
def isLst : Option D → Bool
  | some (.lst _ _) => true
  | _ => false
theorem gLm_ap {f : List D → List D → Option (List D × D)} : gLm f i gl ρ = if isLst (look ρ i) = true then (gl ρ).bind (gLmK f i) else .no := by
  unfold gLm
  cases look ρ i with
  | none => rfl
  | some d => cases d <;> rfl
theorem isLst_ap {fl : Fl} {ds : List D} : isLst (some (.lst fl ds)) = true := rfl
theorem gLmK_ap {f : List D → List D → Option (List D × D)} {es : List D} : gLmK f i (es, ρ) = match pNm i ρ with
  | .ok ⟨l, .lst .own ds, put⟩ => (match f ds es with
    | some (ds', d) => .ok (d, ρ.put l (put (.lst .own ds')))
    | none => .no)
  | _ => .no := rfl
def pNmK (i : Nat) (ρ : Plc) : Option Lc → Out Exn Pt
  | some l => (match ρ.get l with
    | some d => .ok ⟨l, d, id⟩
    | none => .no)
  | none => .no
theorem pNm_ap : pNm i ρ = pNmK i ρ (ρ.lc i) := rfl
theorem pNmK_some {l : Lc} : pNmK i ρ (some l) = (match ρ.get l with
    | some d => .ok ⟨l, d, id⟩
    | none => .no) := rfl
theorem fnF_ap {n : Nat} {ms : List Md} {body : FS} {ds : List D} : fnF n ms body ds = finF ms (body (startP n ms ds)) := rfl
theorem finF_rt {ms : List Md} {d : D} : finF ms (.rt d ρ) = if d.noBor = true ∧ okA ms ρ.a = true then .rt d ρ.a else .no := rfl
theorem finF_nx {ms : List Md} : finF ms (.nx ρ) = if okA ms ρ.a = true then .rt .non ρ.a else .no := rfl
theorem finF_ex {ms : List Md} {x : Exn} : finF ms (.ex x ρ) = if x.plain = true ∧ okA ms ρ.a = true then .ex x ρ.a else .no := rfl
def subK (fp : FP) (fq : FQ) (d : D) : FS := fun ρ1 => match fp ρ1 with
  | .ok ⟨l, .lst .own ds, put⟩ => (match fq ρ1 with
    | .ok (.int i) => (match ixN ds.length i with
      | some j => .nx (ρ1.put l (put (.lst .own (ds.set j d))))
      | none => .no)
    | .ex x => .ex x ρ1
    | _ => .no)
  | .ex x => .ex x ρ1
  | _ => .no
theorem sSubL_ap {fp : FP} : sSubL fp fa ga ρ = seqE (ga ρ) (subK fp fa) := rfl
theorem subK_ap {fp : FP} {d : D} : subK fp fa d ρ = match fp ρ with
  | .ok ⟨l, .lst .own ds, put⟩ => (match fa ρ with
    | .ok (.int i) => (match ixN ds.length i with
      | some j => .nx (ρ.put l (put (.lst .own (ds.set j d))))
      | none => .no)
    | .ex x => .ex x ρ
    | _ => .no)
  | .ex x => .ex x ρ
  | _ => .no := rfl
def faQK (as : List Ag) (ρ : Plc) : Option (List (Option (Lc × D)) × Plc) → Out (Exn × Plc) (List D × List (Option Lc) × Plc)
  | none => .no
  | some (hs, ρ0) => (match evalA as hs ρ ρ0.view with
    | .ok es => .ok (es, hs.map (Option.map Prod.fst), ρ0)
    | .ex x => .ex (x, ρ)
    | .no => .no)
theorem faQ_ap {as : List Ag} : faQ as ρ = faQK as ρ (takeH (as.map Ag.sl) ρ) := rfl
theorem faQK_some {as : List Ag} {hs : List (Option (Lc × D))} {ρ0 : Plc} : faQK as ρ (some (hs, ρ0)) = (match evalA as hs ρ ρ0.view with
    | .ok es => .ok (es, hs.map (Option.map Prod.fst), ρ0)
    | .ex x => .ex (x, ρ)
    | .no => .no) := rfl
end
-- values, by their kinds
section
variable {i j : Int} {x y : Str} {b c : Bool} {xs ys : List D} {f g : Fl}
theorem addV_i : VL.addV (.int i) (.int j) = .ok (.int (i + j)) := rfl
theorem addV_s : VL.addV (.str x) (.str y) = if x.length + y.length ≤ sizeLine then .ok (.str (x ++ y)) else .no := rfl
theorem addV_l : VL.addV (.lst f xs) (.lst g ys) = if f ≠ .loc ∧ g ≠ .loc ∧ xs.length + ys.length ≤ sizeLine then .ok (.lst .new (xs ++ ys)) else .no := rfl
theorem addV_t : VL.addV (.tup xs) (.tup ys) = if xs.length + ys.length ≤ sizeLine then .ok (.tup (xs ++ ys)) else .no := rfl
theorem subV_i : subV (.int i) (.int j) = .ok (.int (i - j)) := rfl
theorem mulV_i : mulV (.int i) (.int j) = if mulOk i j then .ok (.int (i * j)) else .no := rfl
theorem fdivV_i : fdivV (.int i) (.int j) = if divOk j then .ok (.int (i / j)) else .no := rfl
theorem modV_i : modV (.int i) (.int j) = if 0 < j then .ok (.int (i % j)) else .no := rfl
theorem ltV_i : ltV (.int i) (.int j) = .ok (.bl (decide (i < j))) := rfl
theorem leV_i : leV (.int i) (.int j) = .ok (.bl (decide (i ≤ j))) := rfl
theorem gtV_i : gtV (.int i) (.int j) = .ok (.bl (decide (i > j))) := rfl
theorem geV_i : geV (.int i) (.int j) = .ok (.bl (decide (i ≥ j))) := rfl
theorem negV_i : negV (.int i) = .ok (.int (-i)) := rfl
theorem eqV_i : VL.eqV (.int i) (.int j) = .ok (.bl (decide (i = j))) := rfl
theorem eqV_s : VL.eqV (.str x) (.str y) = .ok (.bl (decide (x = y))) := rfl
theorem eqV_b : VL.eqV (.bl b) (.bl c) = .ok (.bl (decide (b = c))) := rfl
theorem neV_i : VL.neV (.int i) (.int j) = .ok (.bl (!decide (i = j))) := rfl
theorem neV_s : VL.neV (.str x) (.str y) = .ok (.bl (!decide (x = y))) := rfl
theorem neV_b : VL.neV (.bl b) (.bl c) = .ok (.bl (!decide (b = c))) := rfl
theorem ixV_t : ixV (.tup xs) (.int i) = ofO (atI xs i) := rfl
theorem ixV_tk : ixV (.tuk xs) (.int i) = ofO (atI xs i) := rfl
theorem ixV_l : ixV (.lst f xs) (.int i) = ofO (atI xs i) := rfl
theorem ixV_s : ixV (.str x) (.int i) = if x.length ≤ sizeLine then ofO ((atI x.cps.toList i).map fun c => .str ⟨#[c]⟩) else .no := rfl
theorem lenN_l : lenN (.lst f xs) = some xs.length := rfl
theorem lenN_t : lenN (.tup xs) = some xs.length := rfl
theorem lenV_ap {d : D} : lenV [d] = ofO ((lenN d).map fun n => .int (n : Nat)) := rfl
theorem atI_nat {α : Type} {zs : List α} {n : Nat} (h : n < zs.length) : atI zs (n : Int) = zs[n]? := by
  unfold atI ixN
  rw [if_pos (Int.natCast_nonneg n), if_pos (by exact_mod_cast h)]
  rfl
theorem ixN_nat {m n : Nat} (h : n < m) : ixN m (n : Int) = some n := by
  unfold ixN
  rw [if_pos (Int.natCast_nonneg n), if_pos (by exact_mod_cast h)]
  rfl
theorem at_0 {α : Type} {a : α} {zs : List α} : atI (a :: zs) 0 = some a := atI_nat (n := 0) (by simp)
theorem at_1 {α : Type} {a b : α} {zs : List α} : atI (a :: b :: zs) 1 = some b := atI_nat (n := 1) (by simp)
theorem at_2 {α : Type} {a b c : α} {zs : List α} : atI (a :: b :: c :: zs) 2 = some c := atI_nat (n := 2) (by simp)
theorem at_3 {α : Type} {a b c d : α} {zs : List α} : atI (a :: b :: c :: d :: zs) 3 = some d := atI_nat (n := 3) (by simp)
theorem ix_0 {m : Nat} : ixN (m + 1) 0 = some 0 := ixN_nat (n := 0) (by omega)
theorem ix_1 {m : Nat} : ixN (m + 2) 1 = some 1 := ixN_nat (n := 1) (by omega)
theorem ix_2 {m : Nat} : ixN (m + 3) 2 = some 2 := ixN_nat (n := 2) (by omega)
theorem mulOk_l (h : -(2 ^ 64) < i ∧ i < 2 ^ 64) : mulOk i j := .inl h
theorem mulOk_r (h : -(2 ^ 64) < j ∧ j < 2 ^ 64) : mulOk i j := .inr (.inl h)
theorem divOk_of (h : 0 < j) (h2 : j < 2 ^ 64) : divOk j := ⟨h, by
  have : j.natAbs < 2 ^ 64 := by omega
  exact Nat.lt_of_lt_of_le this (Nat.pow_le_pow_right (by decide) (by decide))⟩
end
theorem strs_all {p : Fl → Bool} : ∀ zs : List Str, D.allFL p (zs.map D.str) = true
  | [] => rfl
  | z :: zs => by rw [List.map_cons, D.allFL, strs_all zs]; rfl
theorem sz_le {n : Nat} (h : n ≤ 64) : (n ≤ sizeLine) = True := eq_true (Nat.le_trans h (by decide))
theorem sz_lt {n : Nat} (h : n ≤ 64) : (n < sizeLine) = True := eq_true (Nat.lt_of_le_of_lt h (by decide))
theorem allFL_map {α : Type} {p : Fl → Bool} {g : α → D} {xs : List α} (h : ∀ x, (g x).allF p = true) : D.allFL p (xs.map g) = true := by
  rw [allFL_eq, List.all_eq_true]
  intro d m
  obtain ⟨x, _, rfl⟩ := List.mem_map.mp m
  exact h x
/-- a loop's first round -/
theorem forV_nil {tg : Tg} {b : FS} {ρ : Plc} : forV tg b [] ρ = .nx ρ := rfl
theorem forV_nx {tg : Tg} {b : FS} {d : D} {ds : List D} {ρ ρ1 ρ2 : Plc} (h : tg.put d ρ = some ρ1) (h2 : b ρ1 = .nx ρ2) : forV tg b (d :: ds) ρ = forV tg b ds ρ2 := by simp only [forV, h, h2]
theorem forV_ct {tg : Tg} {b : FS} {d : D} {ds : List D} {ρ ρ1 ρ2 : Plc} (h : tg.put d ρ = some ρ1) (h2 : b ρ1 = .ct ρ2) : forV tg b (d :: ds) ρ = forV tg b ds ρ2 := by simp only [forV, h, h2]
theorem forV_rt {tg : Tg} {b : FS} {d e : D} {ds : List D} {ρ ρ1 ρ2 : Plc} (h : tg.put d ρ = some ρ1) (h2 : b ρ1 = .rt e ρ2) : forV tg b (d :: ds) ρ = .rt e ρ2 := by simp only [forV, h, h2]
theorem put_nm {i : Nat} {d : D} {ρ : Plc} : Tg.put (.nm i) d ρ = some (ρ.setS i (.val d)) := by simp only [Tg.put]
theorem rng1_ap {n : Nat} (h : n < 2 ^ 62) : rng1 [.int (n : Int)] = some (rngD 0 n) := by
  show (if okR (n : Int) then some (rngD 0 (n : Int).toNat) else none) = _
  rw [if_pos (show okR (n : Int) by unfold okR; omega)]
  simp

/-! ### comprehensions, membership -/
theorem compV_filter {tg : Tg} {tt : FT} {te : FQ} {ρ : Plc} {α : Type} {g h : α → D} {p : α → Bool} : ∀ xs : List α, (∀ x ∈ xs, ∃ ρ1, tg.put (g x) ρ = some ρ1 ∧ tt ρ1 = .ok (p x) ∧ (p x = true → te ρ1 = .ok (h x) ∧ (h x).st.noOwn = true)) → compV tg tt te ρ (xs.map g) = .ok ((xs.filter p).map fun x => (h x).st)
  | [], _ => rfl
  | x :: xs, H => by
    obtain ⟨ρ1, h1, h2, h3⟩ := H x (by simp)
    have ih := compV_filter xs fun y m => H y (by simp [m])
    simp only [List.map_cons, compV, h1, h2, pure_ok, bind_ok, ih]
    cases hp : p x with
    | true =>
      obtain ⟨h4, h5⟩ := h3 hp
      simp only [if_true, h4, h5, pure_ok, bind_ok, List.filter_cons, hp, List.map_cons]
    | false => simp only [Bool.false_eq_true, if_false, List.filter_cons, hp]
theorem compV_map {tg : Tg} {tt : FT} {te : FQ} {ρ : Plc} {α : Type} {g h : α → D} (xs : List α) (H : ∀ x ∈ xs, ∃ ρ1, tg.put (g x) ρ = some ρ1 ∧ tt ρ1 = .ok true ∧ te ρ1 = .ok (h x) ∧ (h x).st = h x ∧ (h x).noOwn = true) : compV tg tt te ρ (xs.map g) = .ok (xs.map h) := by
  rw [compV_filter (p := fun _ => true) (h := h) xs fun x m => by
    obtain ⟨ρ1, h1, h2, h3, h4, h5⟩ := H x m
    exact ⟨ρ1, h1, h2, fun _ => ⟨h3, by rw [h4]; exact h5⟩⟩]
  congr 1
  rw [List.filter_eq_self.mpr (fun _ _ => rfl)]
  exact List.map_congr_left fun x m => by obtain ⟨_, _, _, _, h4, _⟩ := H x m; exact h4
theorem flatDs_strs : ∀ ns : List Str, flatDs (ns.map D.str) = some (ns.map V.str)
  | [] => rfl
  | n :: ns => by simp only [List.map_cons, flatDs, flatD, flatDs_strs ns]
theorem inV_strs {z : Str} {ns : List Str} : L2.inV (.str z) (ns.map V.str) = decide (z ∈ ns) := by
  unfold L2.inV
  induction ns with
  | nil => simp
  | cons n ns ih =>
    simp only [List.map_cons, List.any_cons, ih, List.mem_cons]
    by_cases e : n = z
    · subst e; simp [L2.eqV]
    · have e2 : ¬ z = n := fun q => e q.symm
      simp [L2.eqV, e, e2]
theorem inU_strs {f : Fl} {z : Str} {ns : List Str} : inU (.str z) (.lst f (ns.map D.str)) = .ok (.bl (decide (z ∈ ns))) := by
  unfold inU inB
  simp only [flatD, flatDs_strs, inV_strs]
  rfl
theorem ninU_strs {f : Fl} {z : Str} {ns : List Str} : ninU (.str z) (.lst f (ns.map D.str)) = .ok (.bl (!decide (z ∈ ns))) := by
  unfold ninU inB
  simp only [flatD, flatDs_strs, inV_strs]
  rfl

/-! ### quiet calls reckoned -/
def callK (F : Fn) : Option (List D) → Out Exn D
  | some es => resQ (F es)
  | none => .no
theorem callQ_ap {ms : List Md} {F : Fn} {ds : List D} : callQ ms F ds = callK F (giveQ ms ds) := rfl
theorem callK_some {F : Fn} {es : List D} : callK F (some es) = resQ (F es) := rfl
theorem giveQ_nil : giveQ [] [] = some [] := rfl
theorem giveQ_r {ms : List Md} {d : D} {ds : List D} : giveQ (.r :: ms) (d :: ds) = (giveQ ms ds).map (d.view :: ·) := rfl
theorem giveQ_k {ms : List Md} {d : D} {ds : List D} : giveQ (.k :: ms) (d :: ds) = if d.st.kept = true then (giveQ ms ds).map (d.st :: ·) else none := rfl
theorem resQ_rt {d : D} {os : List (Option D)} : resQ (.rt d os) = .ok d.q := rfl
theorem resQ_ex {x : Exn} {os : List (Option D)} : resQ (.ex x os) = .ex x := rfl
theorem isi_of {d : D} {s t : String} {b : Bool} (h : tyD d = some s) (h2 : kitB s t = some b) : isiV [d, .ty t] = .ok (.bl b) := by
  unfold isiV
  simp only [h, Option.bind_some, h2, Option.map_some, ofO_some]
theorem allV_bls {f : Fl} {bs : List Bool} : allV [.lst f (bs.map D.bl)] = .ok (.bl (bs.all id)) := by
  unfold allV
  simp only [blsD_map, Option.map_some, ofO_some]
theorem inU_sign {c : Nat} {z : Str} : inU (.str ⟨#[c]⟩) (.str z) = .ok (.bl (decide (c ∈ z.cps.toList))) := rfl
theorem qChain_ap {f g : D → D → Out Exn D} {fa fb fc : FQ} {ρ : Plc} : qChain f g fa fb fc ρ = (fa ρ).bind fun x => (fb ρ).bind fun y => (f x y).pure.bind fun z => match z with
  | .bl true => (fc ρ).bind fun w => (g y w).pure
  | .bl false => .ok (.bl false)
  | _ => .no := rfl
theorem lenN_s {z : Str} : lenN (.str z) = if z.length ≤ sizeLine then some z.length else none := rfl
theorem q_str {z : Str} : (D.str z).q = .str z := rfl
theorem q_int {i : Int} : (D.int i).q = .int i := rfl
theorem q_bl {b : Bool} : (D.bl b).q = .bl b := rfl
theorem q_non : D.non.q = .non := rfl
theorem q_tup {xs : List D} : (D.tup xs).q = .tup (D.mapFL fzF xs) := rfl
theorem q_lst {xs : List D} : (D.lst .own xs).q = .lst .new (D.mapFL fzF xs) := rfl
theorem q_dic {xs : List (Kd × D)} : (D.dic .own xs).q = .dic .new (D.mapFK fzF xs) := rfl
theorem q_dit {xs : List (Kd × D)} : (D.dit .own xs).q = .dit .new (D.mapFK fzF xs) := rfl
theorem q_obj {C : Addr} {xs : List (Kd × D)} : (D.obj .own C xs).q = .obj .new C (D.mapFK fzF xs) := rfl
end VL

/-! VMe: dicts that are walked: locked meanwhile. -/
namespace VL
open PySem PySem.Spec PyProof.Rows L2

open Classical in
/-- what stands at d is locked -/
noncomputable def lk (d : Addr) (od : Obj) (u : HO) (F : Hp) : Hp := fun a => if a = d ∧ F a = some u then some (.frz od u) else F a
open Classical in
noncomputable def unl (d : Addr) (od : Obj) (u : HO) (F : Hp) : Hp := fun a => if a = d ∧ F a = some (.frz od u) then some u else F a
section
variable {d : Addr} {od : Obj} {u : HO} {F G B H : Hp} {K : PySem.W.Frag}
theorem lk_ne {a : Addr} (h : a ≠ d) : lk d od u F a = F a := by unfold lk; rw [if_neg fun z => h z.1]
theorem lk_at (h : F d = some u) : lk d od u F d = some (.frz od u) := by unfold lk; rw [if_pos ⟨rfl, h⟩]
theorem lk_no (h : F d ≠ some u) : lk d od u F = F := by
  funext a
  unfold lk
  by_cases e : a = d
  · subst e; rw [if_neg fun z => h z.2]
  · rw [if_neg fun z => e z.1]
theorem lk_upd (h : F d = some u) : lk d od u F = upd F d (.frz od u) := by
  funext a
  by_cases e : a = d
  · subst e; rw [lk_at h, upd_same]
  · rw [lk_ne e, upd_ne e]
theorem unl_ne {a : Addr} (h : a ≠ d) : unl d od u F a = F a := by unfold unl; rw [if_neg fun z => h z.1]
theorem unl_at (h : F d = some (.frz od u)) : unl d od u F d = some u := by unfold unl; rw [if_pos ⟨rfl, h⟩]
theorem unl_no (h : F d ≠ some (.frz od u)) : unl d od u F = F := by
  funext a
  unfold unl
  by_cases e : a = d
  · subst e; rw [if_neg fun z => h z.2]
  · rw [if_neg fun z => e z.1]
theorem unl_upd (h : F d = some (.frz od u)) : unl d od u F = upd F d u := by
  funext a
  by_cases e : a = d
  · subst e; rw [unl_at h, upd_same]
  · rw [unl_ne e, upd_ne e]
theorem lk_none {a : Addr} : lk d od u F a = none ↔ F a = none := by
  unfold lk
  by_cases e : a = d ∧ F a = some u
  · rw [if_pos e, e.2]; simp
  · rw [if_neg e]
theorem unl_none {a : Addr} : unl d od u F a = none ↔ F a = none := by
  unfold unl
  by_cases e : a = d ∧ F a = some (.frz od u)
  · rw [if_pos e, e.2]; simp
  · rw [if_neg e]
theorem same_lk (s : Same F H) : Same (lk d od u F) (lk d od u H) := fun a o e => by
  by_cases h : a = d ∧ F a = some u
  · obtain ⟨rfl, h⟩ := h
    rw [lk_at h] at e
    rw [lk_at (s _ _ h)]
    exact e
  · unfold lk at e
    rw [if_neg h] at e
    have := s a o e
    unfold lk
    by_cases h2 : a = d ∧ H a = some u
    · exfalso
      refine h ⟨h2.1, ?_⟩
      rw [this] at h2
      rw [e]; exact h2.2
    · rw [if_neg h2]; exact this
theorem same_unl (s : Same F H) : Same (unl d od u F) (unl d od u H) := fun a o e => by
  by_cases h : a = d ∧ F a = some (.frz od u)
  · obtain ⟨rfl, h⟩ := h
    rw [unl_at h] at e
    rw [unl_at (s _ _ h)]
    exact e
  · unfold unl at e
    rw [if_neg h] at e
    have := s a o e
    unfold unl
    by_cases h2 : a = d ∧ H a = some (.frz od u)
    · exfalso
      refine h ⟨h2.1, ?_⟩
      rw [this] at h2
      rw [e]; exact h2.2
    · rw [if_neg h2]; exact this
theorem unl_lk (s : Same F H) (h : H d = some u) (hu : ∀ o x, u ≠ .frz o x) : unl d od u (lk d od u F) = F := by
  funext a
  by_cases e : a = d
  · subst e
    cases z : F a with
    | none => exact unl_none.mpr (lk_none.mpr z)
    | some o =>
      have := s a o z
      rw [h] at this
      cases this
      rw [unl_at (lk_at z)]
  · rw [unl_ne e, lk_ne e]
/-- the dict that is locked -/
def IsDk (u : HO) : Prop := (∃ vs, u = .dK vs) ∨ ∃ vs, u = .dT vs
theorem nd_lk {f : Fl} {p : Addr} {o : HO} (hp : p ≠ d) (n : Nd G B H f p o) : Nd (lk d od u G) (lk d od u B) (lk d od u H) f p o := by
  cases f with
  | own => exact (lk_ne hp).trans n
  | new => exact (lk_ne hp).trans n
  | frz => exact (lk_ne hp).trans n
  | bor => exact n.imp (lk_ne hp).trans (lk_ne hp).trans
  | loc => exact n.elim
theorem nd_lkd {f : Fl} {o : HO} (gh : Same G H) (bh : Same B H) (h : H d = some u) (n : Nd G B H f d o) : o = u ∧ Nd (lk d od u G) (lk d od u B) (lk d od u H) f d (.frz od o) := by
  have e := n.here gh bh
  rw [h] at e
  cases e
  refine ⟨rfl, ?_⟩
  cases f with
  | own => exact lk_at n
  | new => exact lk_at n
  | frz => exact lk_at n
  | bor => exact n.imp lk_at lk_at
  | loc => exact n.elim
theorem nd_unl {f : Fl} {p : Addr} {o : HO} (hp : p ≠ d) (n : Nd G B H f p o) : Nd (unl d od u G) (unl d od u B) (unl d od u H) f p o := by
  cases f with
  | own => exact (unl_ne hp).trans n
  | new => exact (unl_ne hp).trans n
  | frz => exact (unl_ne hp).trans n
  | bor => exact n.imp (unl_ne hp).trans (unl_ne hp).trans
  | loc => exact n.elim
theorem rd_lk {p : Addr} {o : HO} (hp : p ≠ d) (h : Rd F p o) : Rd (lk d od u F) p o := h.imp (lk_ne hp).trans fun ⟨x, h⟩ => ⟨x, (lk_ne hp).trans h⟩
theorem rd_unl {p : Addr} {o : HO} (hp : p ≠ d) (h : Rd F p o) : Rd (unl d od u F) p o := h.imp (unl_ne hp).trans fun ⟨x, h⟩ => ⟨x, (unl_ne hp).trans h⟩
theorem ne_of_rd {p : Addr} {o : HO} (s : Same F H) (h : H d = some u) (hu : IsDk u) (r : Rd F p o) (no : ¬ IsDk o) : p ≠ d := by
  rintro rfl
  rcases r with r | ⟨x, r⟩
  · have := s _ _ r
    rw [h] at this
    cases this
    exact no hu
  · have := s _ _ r
    rw [h] at this
    cases this
    rcases hu with ⟨_, z⟩ | ⟨_, z⟩ <;> cases z
theorem sqT_lk {p : Addr} {vs : List V} (s : Same F H) (h : H d = some u) (hu : IsDk u) (q : SqT K F p vs) : SqT K (lk d od u F) p vs := by
  rcases q with q | q
  · exact .inl (rd_lk (ne_of_rd s h hu q (by rintro (⟨_, z⟩ | ⟨_, z⟩) <;> cases z)) q)
  · exact .inr q
theorem sqL_lk {p : Addr} {vs : List V} (s : Same F H) (h : H d = some u) (hu : IsDk u) (q : SqL K F p vs) : SqL K (lk d od u F) p vs := by
  rcases q with q | q
  · exact .inl (rd_lk (ne_of_rd s h hu q (by rintro (⟨_, z⟩ | ⟨_, z⟩) <;> cases z)) q)
  · exact .inr q
theorem nd_ne {f : Fl} {p : Addr} {o : HO} (gh : Same G H) (bh : Same B H) (h : H d = some u) (hu : IsDk u) (n : Nd G B H f p o) (no : ¬ IsDk o) : p ≠ d := ne_of_rd (F := H) (fun _ _ z => z) h hu (.inl (n.here gh bh)) no
theorem ndR_lk {f : Fl} {p : Addr} {o : HO} (gh : Same G H) (bh : Same B H) (h : H d = some u) (hu : IsDk u) (hf : f ≠ .new) (n : NdR G B H f p o) : NdR (lk d od u G) (lk d od u B) (lk d od u H) f p o := by
  by_cases e : p = d
  · subst e
    rcases n with n | ⟨nn, ob, n⟩
    · obtain ⟨rfl, n2⟩ := nd_lkd (od := od) gh bh h n
      exact .inr ⟨hf, od, n2⟩
    · have := n.here gh bh
      rw [h] at this
      cases this
      rcases hu with ⟨_, z⟩ | ⟨_, z⟩ <;> cases z
  · rcases n with n | ⟨nn, ob, n⟩
    · exact .inl (nd_lk e n)
    · exact .inr ⟨nn, ob, nd_lk e n⟩
theorem notDk {o : HO} (h : ∀ vs, o ≠ .dK vs) (h2 : ∀ vs, o ≠ .dT vs) : ¬ IsDk o := by
  rintro (⟨_, z⟩ | ⟨_, z⟩)
  · exact h _ z
  · exact h2 _ z
mutual
theorem Dat.lk (gh : Same G H) (bh : Same B H) (h : H d = some u) (hu : IsDk u) : ∀ {S : List Addr} {v : V} {x : D}, x.old → Dat K G B H S v x → Dat K (VL.lk d od u G) (VL.lk d od u B) (VL.lk d od u H) S v x
  | _, _, _, _, .non => .non
  | _, _, _, _, .bl b => .bl b
  | _, _, _, _, .int i => .int i
  | _, _, _, _, .str x => .str x
  | _, _, _, _, .ty n => .ty n
  | _, _, _, _, .ref a => .ref a
  | _, _, _, _, .tup ht hs => .tup (ht.imp (fun q => (lk_ne (ne_of_rd gh h hu (.inl q) (notDk (fun _ z => by cases z) fun _ z => by cases z))).trans q) fun ⟨e, q⟩ => ⟨e, sqT_lk gh h hu q⟩) (Dats.lk gh bh h hu hs)
  | _, _, _, _, .tuk ht hs => .tuk (sqT_lk gh h hu ht) (Dats.lk gh bh h hu hs)
  | _, _, _, _, .lst n hs => .lst (nd_lk (nd_ne gh bh h hu n (notDk (fun _ z => by cases z) fun _ z => by cases z)) n) (Dats.lk gh bh h hu hs)
  | _, _, _, _, .lok q hs => .lok (q.imp (sqL_lk bh h hu) (sqL_lk gh h hu)) (Dats.lk gh bh h hu hs)
  | _, _, _, o, .dic n hs => .dic (ndR_lk gh bh h hu (fun z => o (by rw [z]; rfl)) n) (DatM.lk gh bh h hu hs)
  | _, _, _, o, .dit n hs => .dit (ndR_lk gh bh h hu (fun z => o (by rw [z]; rfl)) n) (DatM.lk gh bh h hu hs)
  | _, _, _, _, .obj (dx := dx) n hs => .obj (dx := dx) (nd_lk (nd_ne gh bh h hu n (notDk (fun _ z => by cases z) fun _ z => by cases z)) n) (DatM.lk gh bh h hu hs)
theorem Dats.lk (gh : Same G H) (bh : Same B H) (h : H d = some u) (hu : IsDk u) : ∀ {S : List Addr} {v : List V} {x : List D}, Dats K G B H S v x → Dats K (VL.lk d od u G) (VL.lk d od u B) (VL.lk d od u H) S v x
  | _, _, _, .nil => .nil
  | _, _, _, .cons n hd t => .cons n (Dat.lk gh bh h hu n hd) (Dats.lk gh bh h hu t)
theorem DatM.lk (gh : Same G H) (bh : Same B H) (h : H d = some u) (hu : IsDk u) : ∀ {S : List Addr} {v : List (Kd × V)} {x : List (Kd × D)}, DatM K G B H S v x → DatM K (VL.lk d od u G) (VL.lk d od u B) (VL.lk d od u H) S v x
  | _, _, _, .nil => .nil
  | _, _, _, .cons n hd t => .cons n (Dat.lk gh bh h hu n hd) (DatM.lk gh bh h hu t)
end
theorem SOk.lk {As : List V} {σ : L2.St} {ρ : Plc} (so : SOk K G B H As σ ρ) (h : H d = some u) (hu : IsDk u) : SOk K (VL.lk d od u G) (VL.lk d od u B) (VL.lk d od u H) As σ ρ :=
  ⟨same_lk so.gh, same_lk so.bh, so.len, fun i x e => let ⟨n, v, h1, S, h2⟩ := so.at' i x e; ⟨n, v, h1, S, h2.lk so.gh so.bh h hu n⟩, so.arg, fun j x e => let ⟨n, v, h1, S, h2⟩ := so.ar j x e; ⟨n, v, h1, S, h2.lk so.gh so.bh h hu n⟩⟩
end

section
variable {d : Addr} {od : Obj} {u : HO} {F G B H : Hp} {K : PySem.W.Frag}
theorem ne_frz {p : Addr} {o : HO} (s : Same F H) (h : H d = some (.frz od u)) (hu : IsDk u) (r : Rd F p o) (no : ¬ IsDk o) (nf : ∀ x y, o ≠ .frz x y) : p ≠ d := by
  rintro rfl
  rcases r with r | ⟨x, r⟩
  · have := s _ _ r
    rw [h] at this
    cases this
    exact nf _ _ rfl
  · have := s _ _ r
    rw [h] at this
    cases this
    exact no hu
theorem sqT_unl {p : Addr} {vs : List V} (s : Same F H) (h : H d = some (.frz od u)) (hu : IsDk u) (q : SqT K F p vs) : SqT K (unl d od u F) p vs := by
  rcases q with q | q
  · exact .inl (rd_unl (ne_frz s h hu q (notDk (fun _ z => by cases z) fun _ z => by cases z) (fun _ _ z => by cases z)) q)
  · exact .inr q
theorem sqL_unl {p : Addr} {vs : List V} (s : Same F H) (h : H d = some (.frz od u)) (hu : IsDk u) (q : SqL K F p vs) : SqL K (unl d od u F) p vs := by
  rcases q with q | q
  · exact .inl (rd_unl (ne_frz s h hu q (notDk (fun _ z => by cases z) fun _ z => by cases z) (fun _ _ z => by cases z)) q)
  · exact .inr q
theorem ndR_unl {f : Fl} {p : Addr} {o : HO} (gh : Same G H) (bh : Same B H) (h : H d = some (.frz od u)) (n : NdR G B H f p o) (nf : ∀ x y, o ≠ .frz x y) : NdR (unl d od u G) (unl d od u B) (unl d od u H) f p o := by
  by_cases e : p = d
  · subst e
    rcases n with n | ⟨nn, ob, n⟩
    · have := n.here gh bh
      rw [h] at this
      cases this
      exact absurd rfl (nf _ _)
    · have := n.here gh bh
      rw [h] at this
      cases this
      refine .inl ?_
      cases f with
      | own => exact unl_at n
      | new => exact absurd rfl nn
      | frz => exact unl_at n
      | bor => exact n.imp unl_at unl_at
      | loc => exact n.elim
  · rcases n with n | ⟨nn, ob, n⟩
    · exact .inl (nd_unl e n)
    · exact .inr ⟨nn, ob, nd_unl e n⟩
theorem nd_nef {f : Fl} {p : Addr} {o : HO} (gh : Same G H) (bh : Same B H) (h : H d = some (.frz od u)) (n : Nd G B H f p o) (nf : ∀ x y, o ≠ .frz x y) : p ≠ d := by
  rintro rfl
  have := n.here gh bh
  rw [h] at this
  cases this
  exact nf _ _ rfl
mutual
theorem Dat.unl (gh : Same G H) (bh : Same B H) (h : H d = some (.frz od u)) (hu : IsDk u) : ∀ {S : List Addr} {v : V} {x : D}, Dat K G B H S v x → Dat K (VL.unl d od u G) (VL.unl d od u B) (VL.unl d od u H) S v x
  | _, _, _, .non => .non
  | _, _, _, .bl b => .bl b
  | _, _, _, .int i => .int i
  | _, _, _, .str x => .str x
  | _, _, _, .ty n => .ty n
  | _, _, _, .ref a => .ref a
  | _, _, _, .tup ht hs => .tup (ht.imp (fun q => (unl_ne (ne_frz gh h hu (.inl q) (notDk (fun _ z => by cases z) fun _ z => by cases z) (fun _ _ z => by cases z))).trans q) fun ⟨e, q⟩ => ⟨e, sqT_unl gh h hu q⟩) (Dats.unl gh bh h hu hs)
  | _, _, _, .tuk ht hs => .tuk (sqT_unl gh h hu ht) (Dats.unl gh bh h hu hs)
  | _, _, _, .lst n hs => .lst (nd_unl (nd_nef gh bh h n (fun _ _ z => by cases z)) n) (Dats.unl gh bh h hu hs)
  | _, _, _, .lok q hs => .lok (q.imp (sqL_unl bh h hu) (sqL_unl gh h hu)) (Dats.unl gh bh h hu hs)
  | _, _, _, .dic n hs => .dic (ndR_unl gh bh h n (fun _ _ z => by cases z)) (DatM.unl gh bh h hu hs)
  | _, _, _, .dit n hs => .dit (ndR_unl gh bh h n (fun _ _ z => by cases z)) (DatM.unl gh bh h hu hs)
  | _, _, _, .obj (dx := dx) n hs => .obj (dx := dx) (nd_unl (nd_nef gh bh h n (fun _ _ z => by cases z)) n) (DatM.unl gh bh h hu hs)
theorem Dats.unl (gh : Same G H) (bh : Same B H) (h : H d = some (.frz od u)) (hu : IsDk u) : ∀ {S : List Addr} {v : List V} {x : List D}, Dats K G B H S v x → Dats K (VL.unl d od u G) (VL.unl d od u B) (VL.unl d od u H) S v x
  | _, _, _, .nil => .nil
  | _, _, _, .cons n hd t => .cons n (Dat.unl gh bh h hu hd) (Dats.unl gh bh h hu t)
theorem DatM.unl (gh : Same G H) (bh : Same B H) (h : H d = some (.frz od u)) (hu : IsDk u) : ∀ {S : List Addr} {v : List (Kd × V)} {x : List (Kd × D)}, DatM K G B H S v x → DatM K (VL.unl d od u G) (VL.unl d od u B) (VL.unl d od u H) S v x
  | _, _, _, .nil => .nil
  | _, _, _, .cons n hd t => .cons n (Dat.unl gh bh h hu hd) (DatM.unl gh bh h hu t)
end
theorem Ext.unl {G' H' : Hp} (gh : Same G H) (h : H d = some u) (e : Ext (VL.lk d od u G) (VL.lk d od u H) G' H') : Ext G H (VL.unl d od u G') (VL.unl d od u H') := by
  have hd : H' d = some (.frz od u) := e.h d _ (lk_at h)
  refine ⟨fun a o q => ?_, fun a o q => ?_, fun a o q => ?_, same_unl e.gh⟩
  · by_cases x : a = d
    · subst x
      rw [h] at q
      cases q
      exact unl_at hd
    · rw [unl_ne x]
      exact e.h a o ((lk_ne x).trans q)
  · by_cases x : a = d
    · subst x
      have := gh _ _ q
      rw [h] at this
      cases this
      exact unl_at (e.g _ _ (lk_at q))
    · rw [unl_ne x]
      exact e.g a o ((lk_ne x).trans q)
  · by_cases x : a = d
    · subst x
      cases z : G' a with
      | none => rw [unl_none.mpr z] at q; cases q
      | some o2 =>
        rcases e.new a o2 z with w | w
        · cases g : G a with
          | none => rw [lk_none.mpr g] at w; cases w
          | some o3 =>
            have := gh _ _ g
            rw [h] at this
            cases this
            rw [lk_at g] at w
            cases w
            rw [unl_at z] at q
            cases q
            exact .inl rfl
        · rw [lk_at h] at w; cases w
    · rw [unl_ne x] at q
      rcases e.new a o q with w | w
      · exact .inl ((lk_ne x).symm.trans w)
      · exact .inr (lk_none.mp w)
end
end VL

/-! VMf: comprehensions over a dict's keys. -/
namespace VL
open PySem PySem.Spec PyProof.Rows L2

/-- an expression that reads the same while a dict is locked: a name, a name's field -/
structure DPath (X : Cx) (e : Expr) (fq : FQ) : Prop where
  ex : ∃ te : TE, PE X e te ∧ ∀ (G B H : Hp) (As : List V) (σ : L2.St) (ρ : Plc) (x : D), SOk X.K G B H As σ ρ → fq ρ = .ok x → x.old ∧ ∃ v, Dt X.K G B H v x ∧ (∀ R : VK, R v H → te σ H R) ∧ ∀ d od u (R : VK), H d = some u → IsDk u → R v (lk d od u H) → te σ (lk d od u H) R
theorem dp_nm {X : Cx} {x : Str} {pos : Pos} (i : Nat) (hN : X.N[i]? = some x := by rfl) (hv : Vis X.env.scope x := by first | exact Or.inl rfl | exact Or.inr (Or.inl rfl) | exact Or.inr (Or.inr rfl)) (hd : (x == ("__debug__" : Str)) = false := by decide) (hcd : (x == ("__classdict__" : Str)) = false := by decide) : DPath X (.Name x pos) (qV i) :=
  ⟨_, pe_var hN hv hd hcd, fun G B H As σ ρ y so h => by
    unfold qV at h
    cases e : look ρ i with
    | none => rw [e] at h; cases h
    | some z =>
      rw [e] at h
      cases h
      obtain ⟨n, v, h1, h2⟩ := so.look e
      exact ⟨n, v, h2, fun R r => ⟨v, h1, r⟩, fun d od u R _ _ r => ⟨v, h1, r⟩⟩⟩
theorem dp_fld {X : Cx} {x f : Str} {pos p : Pos} {C : Addr} (c : Cls X.K C) (nf : NoAttr X.K C f) (i : Nat) (hN : X.N[i]? = some x := by rfl) (hv : Vis X.env.scope x := by first | exact Or.inl rfl | exact Or.inr (Or.inl rfl) | exact Or.inr (Or.inr rfl)) (hd : (x == ("__debug__" : Str)) = false := by decide) (hcd : (x == ("__classdict__" : Str)) = false := by decide)
    (hb : attributeBase (.Name x p) f X.env (eval (.Name x p) X.env) = eval (.Name x p) X.env := by rfl) : DPath X (.Attribute (.Name x p) f pos) (qFld C f (qV i)) :=
  ⟨_, pe_fld (pe_var hN hv hd hcd) hb, fun G B H As σ ρ y so h => by
    unfold qFld qV at h
    cases e : look ρ i with
    | none => rw [e] at h; cases h
    | some z =>
      rw [e] at h
      obtain ⟨n, v, h1, h2⟩ := so.look e
      have h : fldD C f z = .ok y := h
      have hp := fldD_P (C := C) (f := f) (d := z) (P := fun w => w = y) (E := fun _ => False) (by rw [h]; rfl)
      obtain ⟨fl, fs, d', rfl, eg, rfl⟩ := hp
      obtain ⟨q, dx, vs, rfl, hq, hm⟩ := dt_obj so.gh so.bh h2
      obtain ⟨v', hv', n', hd'⟩ := hm.look.1 d' eg
      refine ⟨n', v', hd', fun R r => ⟨_, h1, q, C, dx, vs, v', rfl, hq, c, nf, hv', r⟩, fun d od u R hu hk r => ⟨_, h1, q, C, dx, vs, v', rfl, ?_, c, nf, hv', r⟩⟩
      rw [lk_ne]
      · exact hq
      · rintro rfl
        rw [hq] at hu
        cases hu
        rcases hk with ⟨_, z⟩ | ⟨_, z⟩ <;> cases z⟩
theorem keys_at {K : PySem.W.Frag} {G B H : Hp} : ∀ {vs : List (Key × V)} {kvs : List (Kd × D)}, Dtm K G B H (vs.map kK) kvs → (kvs.map fun e => kdD e.1) = vs.map fun e => kD e.1
  | [], [], _ => rfl
  | [], _ :: _, h => by have := h.length; simp at this
  | _ :: _, [], h => by have := h.length; simp at this
  | (k, v) :: vs, (k', d) :: ds, h => by
    obtain ⟨h1, _, _, h4⟩ := Dtm.uncons (k := .k k) (v := v) (vs := vs.map kK) h
    subst h1
    simp only [List.map_cons, keys_at h4]
    rfl
theorem walks_keys {C : Hp → Hp → Prop} {K : PySem.W.Frag} {B : Hp} {d : Addr} {o : Obj} {vs : List (Key × V)} (h : ∀ G' H', C G' H' → Same G' H' ∧ H' d = some (.frz o (.dK vs))) : Wk C K B (Itk d o vs) (vs.map fun e => kD e.1) := fun i G' H' c => by
  obtain ⟨gh, q⟩ := h G' H' c
  refine ⟨fun x e => ?_, fun hl => ⟨q, by simpa using hl⟩⟩
  rw [List.getElem?_map] at e
  cases e2 : vs[i]? with
  | none => rw [e2] at e; cases e
  | some kv =>
    rw [e2] at e
    cases e
    refine ⟨⟨q, (List.getElem?_eq_some_iff.mp e2).1⟩, fun x H'' ⟨e3, k, v, e4, e5⟩ => ?_⟩
    subst e3 e5
    rw [e2] at e4
    cases e4
    exact ⟨G', Ext.refl gh, (kD_dt k).2, (kD_dt (K := K) (G := G') (B := B) (H := B) k).1⟩
def qLcK (fq : FQ) (tg : Tg) (tt : FT) (te : FQ) (vs : List Nat) : FQ := fun ρ => match fq ρ with
  | .ok (.dic _ kvs) => (compV tg tt te (ρ.wipe vs) (kvs.map fun e => kdD e.1)).bind mkLc
  | _ => .no
theorem pe_or {X : Cx} {e : Expr} {t t' : TE} (h : PE X e t) (h' : PE X e t') : PE X e fun σ H R => t σ H R ∨ t' σ H R := ⟨fun pins s σ H Q I q => q.elim (h.run pins s σ H Q I) (h'.run pins s σ H Q I)⟩
section
variable {X : Cx} {W : WX} {pos : Pos} {elt tg' iter : Expr} {ifs : List Expr} {scope : Scope} {own : List (Str × Nat)} {fq : FQ} {tg : Tg} {tt : FT} {te : FQ}
theorem qe_lcK (hc : X.calm = true) (hN : X.N.Nodup) (hp : DPath X iter fq) (ok : BlkOk X.N X.env.scope scope own) (sub : ∀ i ∈ tg.vars, i ∈ own.map (·.2))
    (hg : ∀ (s : Shared) (H : Hp) (C : Addr) (cl : List (Str × Addr)) (fp : List Addr), PG (X.blk s H scope (compEnvC scope cl C X.env) fp) tg' (Tg.rd X.K tg)) (ht : ∀ (s : Shared) (H : Hp) (C : Addr) (cl : List (Str × Addr)) (fp : List Addr), QTs (X.blk s H scope (compEnvC scope cl C X.env) fp) W0 ifs tt)
    (he : ∀ (s : Shared) (H : Hp) (C : Addr) (cl : List (Str × Addr)) (fp : List Addr), QE (X.blk s H scope (compEnvC scope cl C X.env) fp) W0 elt te) (hs : ∀ x, foldedSetIterable iter X.env x = pure x := by intro _; rfl) :
    QE X W (.ListComp elt [⟨tg', iter, ifs, 0⟩] scope pos) (qLcK fq tg tt te (own.map (·.2))) := by
  obtain ⟨tx, hx, hpath⟩ := hp.ex
  refine peI (pe_or (pe_lock (pe_lc (tt := upQT X.K W0 tt) (te := upQ X.K W0 te) hc hN (pi_keys hx) ok hg ht he hs)) (pe_lc (tt := upQT X.K W0 tt) (te := upQ X.K W0 te) hc hN (pi_keys hx) ok hg ht he hs)) fun σ H R ⟨G, B, As, ρ, so, q⟩ => ?_
  unfold qLcK at q
  cases hf : fq ρ with
  | no => rw [hf] at q; exact q.elim
  | ex x => rw [hf] at q; exact q.elim
  | ok x =>
    rw [hf] at q
    cases x with
    | dic fl kvs =>
      simp only at q
      obtain ⟨n, v, hd, r1, r2⟩ := hpath G B H As σ ρ _ so hf
      cases ec : compV tg tt te (ρ.wipe (own.map (·.2))) (kvs.map fun e => kdD e.1) with
      | no => rw [ec] at q; exact q.elim
      | ex x => exact absurd ec compV_noex
      | ok ys =>
        rw [ec] at q
        obtain ⟨hz, k⟩ := Out.P_if (show (mkLc ys).P _ _ from q)
        obtain ⟨S, hd⟩ := hd
        cases hd with
        | @dic U _ d vs _ nd hm =>
          rw [keys_at ⟨_, hm⟩] at ec
          rcases nd with nd | ⟨nn, ob, nd⟩
          · have hH : H d = some (.dK vs) := nd.here so.gh so.bh
            have hk : IsDk (.dK vs) := .inl ⟨_, rfl⟩
            refine .inl ⟨d, .dK vs, hH, trivial, fun od => ?_⟩
            rw [← lk_upd hH]
            refine r2 d od _ _ hH hk ⟨d, od, rfl, .inl ⟨vs, lk_at hH, ?_⟩⟩
            have hlk := lk_at (od := od) hH
            refine lc_ok sub (so.lk hH hk) (walks_keys fun G' H' e => ⟨e.gh, e.h d _ hlk⟩) ec hz fun L G' H' us hL ex' gL hL' hd' => ?_
            have hd2 : H' d = some (.frz od (.dK vs)) := ex'.h d _ hlk
            refine ⟨hd2, ?_⟩
            rw [← unl_upd hd2]
            have eu := Ext.unl so.gh hH ex'
            have hB : unl d od (.dK vs) (lk d od (.dK vs) B) = B := unl_lk so.bh hH (fun _ _ z => by cases z)
            have hds := Dats.unl (d := d) (od := od) (u := .dK vs) ex'.gh (fun a o e => ex'.h a o (same_lk so.bh a o e)) hd2 hk hd'
            rw [hB] at hds
            have hLd : L ≠ d := by rintro rfl; rw [hL'] at hd2; cases hd2
            exact k _ _ (.ref L) eu ⟨_, .lst (f := .new) ((unl_ne hLd).trans hL') hds⟩ fun _ => ⟨L, rfl, lk_none.mp hL, unl_none.mpr gL⟩
          · have hH : H d = some (.frz ob (.dK vs)) := nd.here so.gh so.bh
            refine .inr (r1 _ ⟨d, ob, rfl, .inl ⟨vs, hH, ?_⟩⟩)
            exact lc_ok sub so (walks_keys fun G' H' e => ⟨e.gh, e.h d _ hH⟩) ec hz fun L G' H' us hL ex' gL hL' hd' => k G' H' (.ref L) ex' ⟨_, .lst (f := .new) hL' hd'⟩ fun _ => ⟨L, rfl, hL, gL⟩
    | _ => exact q.elim
end
end VL

/-! VMg: sorted texts, and rows of texts. -/
namespace VL
open PySem PySem.Spec PyProof.Rows L2

def leS (a b : Str) : Bool := leD (.str a) (.str b)
def leT (a b : List Str) : Bool := leD (tupS a) (tupS b)
def sortS (m : List Str) : List Str := m.mergeSort leS
def sortT (m : List (List Str)) : List (List Str) := m.mergeSort leT
theorem sortS_map (m : List Str) : (m.map D.str).mergeSort leD = (sortS m).map D.str := (List.map_mergeSort (f := D.str) (r := leS) (s := leD) fun _ _ _ _ => rfl).symm
theorem sortT_map (m : List (List Str)) : (m.map tupS).mergeSort leD = (sortT m).map tupS := (List.map_mergeSort (f := tupS) (r := leT) (s := leD) fun _ _ _ _ => rfl).symm
theorem leS_eq (a b : Str) : leS a b = decide (a.cps.toList ≤ b.cps.toList) := by
  have := congrFun (congrFun (PySem.W.dataLe_str (fun s : Str => s)) a) b
  exact this
theorem leS_trans (a b c : Str) (h : leS a b = true) (h2 : leS b c = true) : leS a c = true := by
  rw [leS_eq, decide_eq_true_eq] at *
  exact List.le_trans h h2
theorem leS_total (a b : Str) : (leS a b || leS b a) = true := by
  rw [leS_eq, leS_eq, Bool.or_eq_true, decide_eq_true_eq, decide_eq_true_eq]
  exact List.le_total _ _
theorem str_ext {a b : Str} (h : a.cps.toList = b.cps.toList) : a = b := by
  obtain ⟨a⟩ := a
  obtain ⟨b⟩ := b
  congr 1
  exact Array.toList_inj.mp h
theorem leS_anti {a b : Str} (h : leS a b = true) (h2 : leS b a = true) : a = b := by
  rw [leS_eq, decide_eq_true_eq] at *
  exact str_ext (List.le_antisymm h h2)
/-- the same texts come out in the same order -/
theorem sortS_perm {xs ys : List Str} (p : xs.Perm ys) : sortS xs = sortS ys :=
  List.Perm.eq_of_pairwise (le := fun a b => leS a b = true) (fun a b _ _ => leS_anti) (List.pairwise_mergeSort leS_trans leS_total xs) (List.pairwise_mergeSort leS_trans leS_total ys) (((List.mergeSort_perm xs leS).trans p).trans (List.mergeSort_perm ys leS).symm)
theorem sortS_length {xs : List Str} : (sortS xs).length = xs.length := (List.mergeSort_perm xs leS).length_eq
theorem sortS_mem {xs : List Str} {x : Str} : x ∈ sortS xs ↔ x ∈ xs := (List.mergeSort_perm xs leS).mem_iff
theorem alike_strs (xs : List Str) : PySem.W.AllAlike ((xs.map D.str).map D.pd) := by
  intro a ha b hb
  simp only [List.map_map, List.mem_map] at ha hb
  obtain ⟨x, _, rfl⟩ := ha
  obtain ⟨y, _, rfl⟩ := hb
  simp [D.pd, PySem.W.alike]
theorem sortable_strs (xs : List Str) : PySem.W.Sortable ((xs.map D.str).map D.pd) := .inr fun a ha => by
  simp only [List.map_map, List.mem_map] at ha
  obtain ⟨x, _, rfl⟩ := ha
  exact ⟨by simp [D.pd], fun xs => by simp [D.pd]⟩
theorem okL_mapV {α : Type} {n : Nat} {f : α → D} : ∀ xs : List α, (∀ x ∈ xs, D.ok n (f x) = true) → D.okL n (xs.map f) = true
  | [], _ => rfl
  | x :: xs, h => by
    rw [List.map_cons, D.okL, h x (by simp), okL_mapV xs fun y m => h y (by simp [m])]
    rfl
theorem okL_strs {n : Nat} {xs : List Str} (h : ∀ x ∈ xs, PyData.strOk x = true) : D.okL n (xs.map D.str) = true := okL_mapV _ fun x hx => by
  simp only [D.ok]
  exact h x hx
theorem alike_all : ∀ xs ys : List Str, PySem.W.alikeAll (D.pdL (xs.map D.str)) (D.pdL (ys.map D.str)) = true
  | [], _ => by simp [D.pdL, PySem.W.alikeAll]
  | x :: xs, [] => by simp [D.pdL, PySem.W.alikeAll]
  | x :: xs, y :: ys => by
    rw [List.map_cons, List.map_cons, D.pdL, D.pdL, PySem.W.alikeAll, alike_all xs ys]
    simp [D.pd, PySem.W.alike]
theorem alike_tups (ms : List (List Str)) : PySem.W.AllAlike ((ms.map tupS).map D.pd) := by
  intro a ha b hb
  simp only [List.map_map, List.mem_map] at ha hb
  obtain ⟨x, _, rfl⟩ := ha
  obtain ⟨y, _, rfl⟩ := hb
  show PySem.W.alike (D.pd (tupS x)) (D.pd (tupS y)) = true
  unfold tupS
  rw [D.pd, D.pd, PySem.W.alike]
  exact alike_all x y
theorem sortable_tups {ms : List (List Str)} (h : ∀ m ∈ ms, m ≠ []) : PySem.W.Sortable ((ms.map tupS).map D.pd) := .inl fun a ha => by
  simp only [List.map_map, List.mem_map] at ha
  obtain ⟨x, hx, rfl⟩ := ha
  cases x with
  | nil => exact absurd rfl (h _ hx)
  | cons y r => exact ⟨D.pd (.str y), D.pdL (r.map .str), by simp [tupS, D.pd, D.pdL]⟩
theorem okL_tups {n : Nat} {ms : List (List Str)} (h : ∀ m ∈ ms, ∀ w ∈ m, PyData.strOk w = true) : D.okL (n + 1) (ms.map tupS) = true := okL_mapV _ fun m hm => by
  show D.okL n _ = true
  exact okL_strs (h m hm)
theorem sortV_strs {f : Fl} {xs : List Str} (h : ∀ x ∈ xs, PyData.strOk x = true) : sortV [.lst f (xs.map D.str)] = .ok (.lst .new ((sortS xs).map D.str)) := by
  unfold sortV
  simp only
  rw [if_pos ⟨okL_strs h, alike_strs xs, sortable_strs xs⟩, sortS_map]
theorem sortV_tups {f : Fl} {ms : List (List Str)} (h : ∀ m ∈ ms, ∀ w ∈ m, PyData.strOk w = true) (h2 : ∀ m ∈ ms, m ≠ []) : sortV [.lst f (ms.map tupS)] = .ok (.lst .new ((sortT ms).map tupS)) := by
  unfold sortV
  simp only
  rw [if_pos ⟨okL_tups h, alike_tups ms, sortable_tups h2⟩, sortT_map]
theorem sortT_mem {ms : List (List Str)} {m : List Str} : m ∈ sortT ms ↔ m ∈ ms := (List.mergeSort_perm ms leT).mem_iff
theorem sortT_length {ms : List (List Str)} : (sortT ms).length = ms.length := (List.mergeSort_perm ms leT).length_eq
theorem sortT_pm {ms : List (List Str)} : (sortT ms).Perm ms := List.mergeSort_perm ms leT
end VL

/-! VMh: == on trees. -/
namespace VL
open PySem PySem.Spec PyProof.Rows L2

@[simp] theorem deq_int {i j : Int} : deq (.int i) (.int j) = decide (i = j) := by simp [deq, D.pd, PyData.eqv]; rfl
@[simp] theorem deq_bl {i j : Bool} : deq (.bl i) (.bl j) = decide (i = j) := by cases i <;> cases j <;> simp [deq, D.pd, PyData.eqv]
@[simp] theorem deq_str {i j : Str} : deq (.str i) (.str j) = decide (i = j) := by
  show (i == j) = _
  rw [Bool.eq_iff_iff]; simp
theorem deq_lst {f g : Fl} {xs ys : List D} : deq (.lst f xs) (.lst g ys) = deqL xs ys := by simp [deq, deqL, D.pd, PyData.eqv]
theorem deq_tup {xs ys : List D} : deq (.tup xs) (.tup ys) = deqL xs ys := by simp [deq, deqL, D.pd, PyData.eqv]
@[simp] theorem deqL_nil : deqL [] [] = true := by simp [deqL, D.pdL, PyData.eqvAll]
@[simp] theorem deqL_cons {x y : D} {xs ys : List D} : deqL (x :: xs) (y :: ys) = (deq x y && deqL xs ys) := by simp [deqL, deq, D.pdL, PyData.eqvAll]
@[simp] theorem deqL_nc {y : D} {ys : List D} : deqL [] (y :: ys) = false := by simp [deqL, D.pdL, PyData.eqvAll]
@[simp] theorem deqL_cn {y : D} {ys : List D} : deqL (y :: ys) [] = false := by simp [deqL, D.pdL, PyData.eqvAll]
theorem deqL_map {α : Type} [DecidableEq α] {f : α → D} (h : ∀ a b, deq (f a) (f b) = decide (a = b)) : ∀ xs ys : List α, deqL (xs.map f) (ys.map f) = decide (xs = ys)
  | [], [] => by simp
  | [], y :: ys => by simp
  | x :: xs, [] => by simp
  | x :: xs, y :: ys => by
    simp only [List.map_cons, deqL_cons, h, deqL_map h xs ys]
    rw [Bool.eq_iff_iff]; simp
theorem deq_tupS (a b : List Str) : deq (tupS a) (tupS b) = decide (a = b) := by
  unfold tupS
  rw [deq_tup, deqL_map (fun _ _ => deq_str)]
theorem any_tupS (m : List Str) (ms : List (List Str)) : ((ms.map tupS).any fun z => deq z (tupS m)) = decide (m ∈ ms) := by
  rw [List.any_map]
  simp only [Function.comp_def, deq_tupS]
  induction ms with
  | nil => simp
  | cons n ms ih =>
    rw [List.any_cons, ih]
    by_cases e : n = m
    · subst e; simp
    · have e2 : ¬ m = n := fun q => e q.symm
      simp [e, e2]
end VL

/-! VMi: more of the reckoning: == on lists, rounds of loops, places by path, lists taken apart. -/
namespace VL
open PySem PySem.Spec PyProof.Rows L2

/-! ### == -/
theorem eqB_l {f g : Fl} {xs ys : List D} (h : D.okL 63 xs = true) (h1 : D.okL 63 ys = true) : eqB (.lst f xs) (.lst g ys) = some (deqL xs ys) := by
  show (if D.okL 63 xs = true ∧ D.okL 63 ys = true then some (deq (.lst f xs) (.lst g ys)) else none) = _
  rw [if_pos ⟨h, h1⟩, deq_lst]
theorem neV_l {f g : Fl} {xs ys : List D} (h : D.okL 63 xs = true) (h1 : D.okL 63 ys = true) : neV (.lst f xs) (.lst g ys) = .ok (.bl (!deqL xs ys)) := by
  unfold neV
  rw [eqB_l h h1]; rfl
theorem eqV_l {f g : Fl} {xs ys : List D} (h : D.okL 63 xs = true) (h1 : D.okL 63 ys = true) : VL.eqV (.lst f xs) (.lst g ys) = .ok (.bl (deqL xs ys)) := by
  unfold VL.eqV
  rw [eqB_l h h1]; rfl
theorem deqL_strs {xs : List Str} : deqL (xs.map D.str) (xs.map D.str) = true := by
  rw [deqL_map (fun _ _ => deq_str)]; simp
theorem neV_strs {f g : Fl} {xs : List Str} (h : ∀ x ∈ xs, PyData.strOk x = true) : neV (.lst f (xs.map D.str)) (.lst g (xs.map D.str)) = .ok (.bl false) := by
  rw [neV_l (okL_strs h) (okL_strs h), deqL_strs]; rfl
/-! ### lists -/
theorem listV_t {ds : List D} : listV [.tup ds] = .ok (.lst .new ds) := rfl
theorem listV_l {f : Fl} {ds : List D} : listV [.lst f ds] = .ok (.lst .new ds) := rfl
theorem listV_d {f : Fl} {kvs : List (Kd × D)} : listV [.dic f kvs] = .ok (.lst .new (kvs.map fun e => kdD e.1)) := rfl
theorem tupleV_l {f : Fl} {ds : List D} : tupleV [.lst f ds] = .ok (.tup ds) := rfl
theorem lenN_d {f : Fl} {kvs : List (Kd × D)} : lenN (.dic f kvs) = some kvs.length := rfl
theorem ixV_d {f : Fl} {kvs : List (Kd × D)} {z : Str} : ixV (.dic f kvs) (.str z) = ofO ((some (getK kvs (kS z))).bind id) := rfl
theorem slV_l {f : Fl} {ds : List D} {lo hi : Option Int} : slV (.lst f ds) lo hi = .ok (.lst .new (cutG ds lo hi)) := rfl
theorem cut_to {α : Type} {xs : List α} {k : Nat} : cutG xs none (some (k : Int)) = xs.take k := by
  unfold cutG
  rw [HT.sIx_nat, HT.sIx_none, List.drop_zero, Nat.sub_zero, ← List.take_eq_take_min]
theorem all_true {α : Type} (xs : List α) : (xs.map fun _ => true).all id = true := by rw [List.all_eq_true]; intro b m; obtain ⟨_, _, rfl⟩ := List.mem_map.mp m; rfl
theorem maxI_perm {xs ys : List Int} (p : xs.Perm ys) (h : xs ≠ []) : maxI xs = maxI ys := by
  have h' : ys ≠ [] := fun e => h (by subst e; exact p.eq_nil)
  obtain ⟨a1, a2⟩ := maxI_mem h
  obtain ⟨b1, b2⟩ := maxI_mem h'
  exact Int.le_antisymm (b2 _ (p.subset a1)) (a2 _ (p.symm.subset b1))
theorem maxV_l {f : Fl} {bs : List Int} (h : bs ≠ []) : maxV [.lst f (bs.map D.int)] = .ok (.int (maxI bs)) := by
  unfold maxV
  simp only [intsD_map, Option.bind_some, if_neg h, ofO_some]
theorem ints_mp {g : Fl → Fl} {st : List Int} : D.mapFL g (st.map D.int) = st.map D.int := mapFL_plain (ints_all st)
theorem strs_mp {g : Fl → Fl} {ns : List Str} : D.mapFL g (ns.map D.str) = ns.map D.str := mapFL_plain (strs_all ns)
/-! ### fields -/
theorem sFldF_ap {C : Addr} {x : Str} {fp : FP} {ga : FG} {ρ : Plc} : sFldF C x fp ga ρ = seqE (ga ρ) fun d ρ1 => match fp ρ1 with
  | .ok ⟨l, .obj .own C' fs, put⟩ => if C' = C ∧ fs.length < 1000 then .nx (ρ1.put l (put (.obj .own C (putFd fs (kS x) d)))) else .no
  | .ex x => .ex x ρ1
  | _ => .no := rfl
theorem fldD_ap {C C' : Addr} {x : Str} {fl : Fl} {fs : List (Kd × D)} : fldD C x (.obj fl C' fs) = if C' = C then (match getK fs (kS x) with | some d => .ok d | none => .no) else .no := rfl
/-! ### rounds of a loop -/
def rndK (tg : Tg) (b : FS) (ds : List D) : OS → OS
  | .nx ρ => forV tg b ds ρ
  | .ct ρ => forV tg b ds ρ
  | .bk ρ => .nx ρ
  | .rt e ρ => .rt e ρ
  | .ex x ρ => .ex x ρ
  | .no => .no
theorem rndK_nx {tg : Tg} {b : FS} {ds : List D} {ρ : Plc} : rndK tg b ds (.nx ρ) = forV tg b ds ρ := rfl
theorem rndK_ct {tg : Tg} {b : FS} {ds : List D} {ρ : Plc} : rndK tg b ds (.ct ρ) = forV tg b ds ρ := rfl
theorem rndK_bk {tg : Tg} {b : FS} {ds : List D} {ρ : Plc} : rndK tg b ds (.bk ρ) = .nx ρ := rfl
theorem rndK_rt {tg : Tg} {b : FS} {ds : List D} {ρ : Plc} {e : D} : rndK tg b ds (.rt e ρ) = .rt e ρ := rfl
theorem rndK_ex {tg : Tg} {b : FS} {ds : List D} {ρ : Plc} {e : Exn} : rndK tg b ds (.ex e ρ) = .ex e ρ := rfl
theorem forV_cons {i : Nat} {b : FS} {d : D} {ds : List D} {ρ : Plc} : forV (.nm i) b (d :: ds) ρ = rndK (.nm i) b ds (b (ρ.setS i (.val d))) := by
  simp only [forV, put_nm]
  cases b (ρ.setS i (.val d)) <;> rfl
def mvK (tg : Tg) (b : FS) (i : Nat) (ρ : Plc) : Option Sl → OS
  | some (.val (.lst .own ds)) => forV tg b ds (ρ.setS i .no)
  | _ => .no
theorem sForMv_ap {i : Nat} {tg : Tg} {b : FS} {s : List Sl} {a : List (Option D)} : sForMv i tg b ⟨s, a⟩ = mvK tg b i ⟨s, a⟩ s[i]? := by
  unfold sForMv mvK
  rfl
theorem mvK_some {i : Nat} {tg : Tg} {b : FS} {ρ : Plc} {ds : List D} : mvK tg b i ρ (some (.val (.lst .own ds))) = forV tg b ds (ρ.setS i .no) := rfl
/-! ### places by path -/
def pFldK (C : Addr) (f : Str) (x : Pt) : Out Exn Pt := match x.e with
  | .obj fl C' fs => if C' = C then (match getK fs (kS f) with
    | some d => .ok ⟨x.l, d, x.put ∘ fun d' => .obj fl C (setK fs (kS f) d')⟩
    | none => .no) else .no
  | _ => .no
theorem pFld_ap {C : Addr} {f : Str} {fp : FP} {ρ : Plc} : pFld C f fp ρ = (fp ρ).bind (pFldK C f) := rfl
theorem pFldK_o {C C' : Addr} {f : Str} {l : Lc} {fl : Fl} {fs : List (Kd × D)} {put : D → D} : pFldK C f ⟨l, .obj fl C' fs, put⟩ = if C' = C then (match getK fs (kS f) with
    | some d => .ok ⟨l, d, put ∘ fun d' => .obj fl C (setK fs (kS f) d')⟩
    | none => .no) else .no := rfl
def pIxK (x : Pt) (k : D) : Out Exn Pt := pIx (fun _ => .ok x) (fun _ => .ok k) ⟨[], []⟩
theorem pIx_ap {fp : FP} {fq : FQ} {ρ : Plc} : pIx fp fq ρ = (fp ρ).bind fun x => (fq ρ).bind (pIxK x) := rfl
theorem pIxK_l {l : Lc} {fl : Fl} {ds : List D} {put : D → D} {i : Int} : pIxK ⟨l, .lst fl ds, put⟩ (.int i) = if fl = .loc then .no else (match ixN ds.length i with
    | some j => match ds[j]? with
      | some d => .ok ⟨l, d, put ∘ fun d' => .lst fl (ds.set j d')⟩
      | none => .no
    | none => .no) := rfl
theorem pIxK_t {l : Lc} {ds : List D} {put : D → D} {i : Int} : pIxK ⟨l, .tup ds, put⟩ (.int i) = (match ixN ds.length i with
    | some j => match ds[j]? with
      | some d => .ok ⟨l, d, put ∘ fun d' => .tup (ds.set j d')⟩
      | none => .no
    | none => .no) := rfl
theorem pIxK_d {l : Lc} {fl : Fl} {kvs : List (Kd × D)} {put : D → D} {z : Str} : pIxK ⟨l, .dic fl kvs, put⟩ (.str z) = (match getK kvs (kS z) with
      | some d => .ok ⟨l, d, put ∘ fun d' => .dic fl (setK kvs (kS z) d')⟩
      | none => .no) := rfl
def gLmPK (f : List D → List D → Option (List D × D)) (m : FMq) (ρ : Plc) : Out Exn Pt → Out (Exn × Plc) (D × Plc)
  | .ok ⟨l, .lst .own ds, put⟩ => (match m ρ with
    | .ok es => (match f ds es with
      | some (ds', d) => .ok (d, ρ.put l (put (.lst .own ds')))
      | none => .no)
    | .ex x => .ex (x, ρ)
    | .no => .no)
  | .ex x => .ex (x, ρ)
  | _ => .no
theorem gLmP_ap {f : List D → List D → Option (List D × D)} {fp : FP} {m : FMq} {ρ : Plc} : gLmP f fp m ρ = gLmPK f m ρ (fp ρ) := rfl
theorem gLmPK_ok {f : List D → List D → Option (List D × D)} {m : FMq} {ρ : Plc} {l : Lc} {ds : List D} {put : D → D} : gLmPK f m ρ (.ok ⟨l, .lst .own ds, put⟩) = (match m ρ with
    | .ok es => (match f ds es with
      | some (ds', d) => .ok (d, ρ.put l (put (.lst .own ds')))
      | none => .no)
    | .ex x => .ex (x, ρ)
    | .no => .no) := rfl
theorem gLmPK_ex {f : List D → List D → Option (List D × D)} {m : FMq} {ρ : Plc} {x : Exn} : gLmPK f m ρ (.ex x) = .ex (x, ρ) := rfl
theorem mqNil_ap {ρ : Plc} : mqNil ρ = .ok [] := rfl
theorem mqCons_ap {f : FQ} {m : FMq} {ρ : Plc} : mqCons f m ρ = (f ρ).bind fun d => if d.free = true then (m ρ).bind fun ds => .ok (d.up :: ds) else .no := rfl
end VL

namespace LW
open PySem PySem.Spec PyProof.Rows L2 VL
def top (i : Nat) : Stmt := PySem.Challenge.pw_evenpieces_k01_webs_told.main.body.getD i (.Pass ⟨0, 0, 0, 0⟩)
structure Adr where
  c_EvenError : Addr
  c_NoWeb : Addr
  c_NoHand : Addr
  c_Web : Addr
abbrev k_LETTERS : D := .str "abcdefghijklmnopqrstuvwxyz"
abbrev k_MOST_HANDS : D := .int 8
abbrev k_MOST_STRENGTH : D := .int 1000
structure Txt (K : PySem.W.Frag) (mg : Str → Option Value) (A : Adr) : Prop where
  f_is_whole : TopFn K mg "is_whole" (top 7) ["thing"]
  f_is_within : TopFn K mg "is_within" (top 8) ["thing", "low", "high"]
  f_is_name : TopFn K mg "is_name" (top 9) ["thing"]
  f_is_hand_row : TopFn K mg "is_hand_row" (top 13) ["thing"]
  f_is_pair : TopFn K mg "is_pair" (top 14) ["thing"]
  f_sorted_pair : TopFn K mg "sorted_pair" (top 15) ["pair"]
  f_sure : TopFn K mg "sure" (top 16) ["good"]
  f_strengths_of : TopFn K mg "strengths_of" (top 17) ["hands"]
  f_pairs_of : TopFn K mg "pairs_of" (top 18) ["ties", "strengths"]
  f_Web___init__ : TopMt K A.c_Web "__init__" "Web.__init__" (inClass (top 19) 0) ["self", "hands", "ties"]
  f_Web_hands : TopMt K A.c_Web "hands" "Web.hands" (inClass (top 19) 1) ["self"]
  f_Web_check_hand : TopMt K A.c_Web "check_hand" "Web.check_hand" (inClass (top 19) 2) ["self", "hand"]
  f_Web_strength : TopMt K A.c_Web "strength" "Web.strength" (inClass (top 19) 3) ["self", "hand"]
  f_Web_neighbours : TopMt K A.c_Web "neighbours" "Web.neighbours" (inClass (top 19) 4) ["self", "hand"]
  f_Web_are_tied : TopMt K A.c_Web "are_tied" "Web.are_tied" (inClass (top 19) 5) ["self", "one", "other"]
  f_Web_ties : TopMt K A.c_Web "ties" "Web.ties" (inClass (top 19) 6) ["self"]
  f_Web_most_neighbours : TopMt K A.c_Web "most_neighbours" "Web.most_neighbours" (inClass (top 19) 7) ["self"]
  f__law_digit : TopFn K mg "_law_digit" (top 22) ["_law_state", "_law_base"]
  f__law_name : TopFn K mg "_law_name" (top 23) ["_law_state"]
  f__law_hands : TopFn K mg "_law_hands" (top 24) ["_law_state", "_law_most"]
  f__law_ties : TopFn K mg "_law_ties" (top 25) ["_law_state", "_law_hands_here"]
  f__law_of : TopFn K mg "_law_of" (top 26) ["_law_ties_here", "_law_hand"]
  f__law_right : TopFn K mg "_law_right" (top 27) ["_law_web", "_law_hands_here", "_law_ties_here"]
  f_law : TopFn K mg "law" (top 28) ["_law_script"]
  b_all : mg "all" = none
  b_bool : mg "bool" = none
  b_dict : mg "dict" = none
  b_int : mg "int" = none
  b_isinstance : mg "isinstance" = none
  b_len : mg "len" = none
  b_list : mg "list" = none
  b_max : mg "max" = none
  b_range : mg "range" = none
  b_set : mg "set" = none
  b_sorted : mg "sorted" = none
  b_str : mg "str" = none
  b_tuple : mg "tuple" = none
  k_LETTERS : DConst K mg "LETTERS" k_LETTERS
  k_MOST_HANDS : DConst K mg "MOST_HANDS" k_MOST_HANDS
  k_MOST_STRENGTH : DConst K mg "MOST_STRENGTH" k_MOST_STRENGTH
  x_NoHand : ExK K mg "NoHand" A.c_NoHand
  x_NoWeb : ExK K mg "NoWeb" A.c_NoWeb
  c_Web : Cls K A.c_Web
  n_Web_pairs : NoAttr K A.c_Web "pairs"
  n_Web_strong : NoAttr K A.c_Web "strong"
  mk_Web : PySem.W.makesIn K A.c_Web = true
  kp_Web : PySem.W.keepIn K (.ref A.c_Web) = true
  m_Web : mg "Web" = some (.ref A.c_Web)
section
variable {P : Program} {w : World} {K : PySem.W.Frag} {mg : Str → Option Value} {base : Heap} {A : Adr}
/- is_whole: 0=thing -/
abbrev s_is_whole : Stmt := (top 7)
theorem sc_is_whole : FnScope ["thing"] ["thing"] (defScope s_is_whole) := ⟨rfl, rfl, rfl, by decide +kernel, rfl, by decide +kernel, by decide +kernel⟩
noncomputable def F_is_whole (K : PySem.W.Frag) (A : Adr) : Fn := fnF 1 [.r] (sRet (gQ (qAnd (qCB isiV (aCons (qV 0) (aCons (qC (.ty "int")) (aNil)))) (qNot (qCB isiV (aCons (qV 0) (aCons (qC (.ty "bool")) (aNil))))))))
theorem ok_is_whole (T : Txt K mg A) : VFn P w K mg base "is_whole" 1 [.r] (F_is_whole K A) := vfn (k := 0) T.f_is_whole sc_is_whole rfl fun f cdv AA outer s H E hr =>
  (vss_one (vs_ret (ge_q (qe_and (qe_callB call_isi v_isi T.b_isinstance (by decide +kernel) (qa_cons (qv 0) (qa_cons (qe_ty (n := "int") T.b_int) qa_nil))) (qe_one (qe_not (qe_callB call_isi v_isi T.b_isinstance (by decide +kernel) (qa_cons (qv 0) (qa_cons (qe_ty (n := "bool") T.b_bool) qa_nil)))))))))

/- is_within: 0=thing 1=low 2=high -/
abbrev s_is_within : Stmt := (top 8)
theorem sc_is_within : FnScope ["thing", "low", "high"] ["thing", "low", "high"] (defScope s_is_within) := ⟨rfl, rfl, rfl, by decide +kernel, rfl, by decide +kernel, by decide +kernel⟩
noncomputable def F_is_within (K : PySem.W.Frag) (A : Adr) : Fn := fnF 3 [.r, .r, .r] (sRet (gQ (qAnd (qCall [.r] (F_is_whole K A) (aCons (qV 0) (aNil))) (qChain leV leV (qV 1) (qV 0) (qV 2)))))
theorem ok_is_within (T : Txt K mg A) : VFn P w K mg base "is_within" 2 [.r, .r, .r] (F_is_within K A) := vfn (k := 1) T.f_is_within sc_is_within rfl fun f cdv AA outer s H E hr =>
  (vss_one (vs_ret (ge_q (qe_and (qe_call (ok_is_whole T) (hr.mono (by decide)) (takes_of rfl rfl rfl rfl) (qa_cons (qv 0) qa_nil)) (qe_one (qe_chain op_le op_le v_le v_le (qv 1) (qv 0) (qv 2)))))))

/- is_name: 0=thing 1=sign -/
abbrev s_is_name : Stmt := (top 9)
theorem sc_is_name : FnScope ["thing", "sign"] ["thing"] (defScope s_is_name) := ⟨rfl, rfl, rfl, by decide +kernel, rfl, by decide +kernel, by decide +kernel⟩
noncomputable def F_is_name (K : PySem.W.Frag) (A : Adr) : Fn := fnF 2 [.r] (sSeq (sIf (gQT (tOr (tNot (tV (qCB isiV (aCons (qV 0) (aCons (qC (.ty "str")) (aNil)))))) (tNot (tV (qChain leV leV (qC (.int 1)) (qCB lenV (aCons (qV 0) (aNil))) (qC (.int 8))))))) (sRet (gQ (qC (.bl false)))) (sNext)) (sRet (gQ (qCB allV (aCons (qLc (iSeq (qV 0)) (.nm 1) (tYes) (qOp inU (qV 1) (qC k_LETTERS)) [1]) (aNil))))))
theorem ok_is_name (T : Txt K mg A) : VFn P w K mg base "is_name" 1 [.r] (F_is_name K A) := vfn (k := 0) T.f_is_name sc_is_name rfl fun f cdv AA outer s H E hr =>
  (vss_cons (vs_if (gt_q (PW.pt (qw_or (qt_not (qt_val (qe_callB call_isi v_isi T.b_isinstance (by decide +kernel) (qa_cons (qv 0) (qa_cons (qe_ty (n := "str") T.b_str) qa_nil))))) (qw_or1 (qt_not (qt_chain op_le op_le v_le v_le qe_int (qe_callB call_lenU v_len T.b_len (by decide +kernel) (qa_cons (qv 0) qa_nil)) qe_int)))))) (vss_one (vs_ret (ge_q qe_bl))) vss_nil)
    (vss_one (vs_ret (ge_q (qe_callB (cr_all rfl) v_all T.b_all (by decide +kernel) (qa_cons (qe_lc (own := [("sign", 1)]) (tg := (.nm 1)) rfl sc_is_name.nd (qi_seq (qv 0)) (blkOk_by (own := [("sign", 1)]) (N := ["thing", "sign"]) (sc := defScope s_is_name) (by decide +kernel)) (by decide) (fun _ _ _ _ _ => (pg_name (i := 1) sc_is_name.nd rfl (Or.inl rfl))) (fun _ _ _ _ _ => qts_nil) (fun _ _ _ _ _ => (qe_cmp (op_inU (hu65 hr)) v_in (qv 1) (qe_const T.k_LETTERS)))) qa_nil))))))

/- is_hand_row: 0=thing -/
abbrev s_is_hand_row : Stmt := (top 13)
theorem sc_is_hand_row : FnScope ["thing"] ["thing"] (defScope s_is_hand_row) := ⟨rfl, rfl, rfl, by decide +kernel, rfl, by decide +kernel, by decide +kernel⟩
noncomputable def F_is_hand_row (K : PySem.W.Frag) (A : Adr) : Fn := fnF 1 [.r] (sSeq (sIf (gQT (tOr (tNot (tV (qCB isiV (aCons (qV 0) (aCons (qC (.ty "tuple")) (aNil)))))) (tV (qOp neV (qCB lenV (aCons (qV 0) (aNil))) (qC (.int 2)))))) (sRet (gQ (qC (.bl false)))) (sNext)) (sRet (gQ (qAnd (qCall [.r] (F_is_name K A) (aCons (qOp ixV (qV 0) (qC (.int 0))) (aNil))) (qCall [.r, .r, .r] (F_is_within K A) (aCons (qOp ixV (qV 0) (qC (.int 1))) (aCons (qC (.int 1)) (aCons (qC k_MOST_STRENGTH) (aNil)))))))))
theorem ok_is_hand_row (T : Txt K mg A) : VFn P w K mg base "is_hand_row" 3 [.r] (F_is_hand_row K A) := vfn (k := 2) T.f_is_hand_row sc_is_hand_row rfl fun f cdv AA outer s H E hr =>
  (vss_cons (vs_if (gt_q (PW.pt (qw_or (qt_not (qt_val (qe_callB call_isi v_isi T.b_isinstance (by decide +kernel) (qa_cons (qv 0) (qa_cons (qe_ty (n := "tuple") T.b_tuple) qa_nil))))) (qw_or1 (qt_cmp (op_neU hr.units) v_ne (qe_callB call_lenU v_len T.b_len (by decide +kernel) (qa_cons (qv 0) qa_nil)) qe_int))))) (vss_one (vs_ret (ge_q qe_bl))) vss_nil)
    (vss_one (vs_ret (ge_q (qe_and (qe_call (ok_is_name T) (hr.mono (by decide)) (takes_of rfl rfl rfl rfl) (qa_cons (qe_ix (ix_U (hu1 hr)) v_ix (qv 0) qe_int) qa_nil)) (qe_one (qe_call (ok_is_within T) (hr.mono (by decide)) (takes_of rfl rfl rfl rfl) (qa_cons (qe_ix (ix_U (hu1 hr)) v_ix (qv 0) qe_int) (qa_cons qe_int (qa_cons (qe_const T.k_MOST_STRENGTH) qa_nil))))))))))

/- is_pair: 0=thing -/
abbrev s_is_pair : Stmt := (top 14)
theorem sc_is_pair : FnScope ["thing"] ["thing"] (defScope s_is_pair) := ⟨rfl, rfl, rfl, by decide +kernel, rfl, by decide +kernel, by decide +kernel⟩
noncomputable def F_is_pair (K : PySem.W.Frag) (A : Adr) : Fn := fnF 1 [.r] (sSeq (sIf (gQT (tOr (tNot (tV (qCB isiV (aCons (qV 0) (aCons (qC (.ty "tuple")) (aNil)))))) (tV (qOp neV (qCB lenV (aCons (qV 0) (aNil))) (qC (.int 2)))))) (sRet (gQ (qC (.bl false)))) (sNext)) (sRet (gQ (qAnd (qCall [.r] (F_is_name K A) (aCons (qOp ixV (qV 0) (qC (.int 0))) (aNil))) (qAnd (qCall [.r] (F_is_name K A) (aCons (qOp ixV (qV 0) (qC (.int 1))) (aNil))) (qOp neV (qOp ixV (qV 0) (qC (.int 0))) (qOp ixV (qV 0) (qC (.int 1)))))))))
theorem ok_is_pair (T : Txt K mg A) : VFn P w K mg base "is_pair" 2 [.r] (F_is_pair K A) := vfn (k := 1) T.f_is_pair sc_is_pair rfl fun f cdv AA outer s H E hr =>
  (vss_cons (vs_if (gt_q (PW.pt (qw_or (qt_not (qt_val (qe_callB call_isi v_isi T.b_isinstance (by decide +kernel) (qa_cons (qv 0) (qa_cons (qe_ty (n := "tuple") T.b_tuple) qa_nil))))) (qw_or1 (qt_cmp (op_neU hr.units) v_ne (qe_callB call_lenU v_len T.b_len (by decide +kernel) (qa_cons (qv 0) qa_nil)) qe_int))))) (vss_one (vs_ret (ge_q qe_bl))) vss_nil)
    (vss_one (vs_ret (ge_q (qe_and (qe_call (ok_is_name T) (hr.mono (by decide)) (takes_of rfl rfl rfl rfl) (qa_cons (qe_ix (ix_U (hu1 hr)) v_ix (qv 0) qe_int) qa_nil)) (qe_and (qe_call (ok_is_name T) (hr.mono (by decide)) (takes_of rfl rfl rfl rfl) (qa_cons (qe_ix (ix_U (hu1 hr)) v_ix (qv 0) qe_int) qa_nil)) (qe_one (qe_cmp (op_neU hr.units) v_ne (qe_ix (ix_U (hu1 hr)) v_ix (qv 0) qe_int) (qe_ix (ix_U (hu1 hr)) v_ix (qv 0) qe_int)))))))))

/- sorted_pair: 0=pair -/
abbrev s_sorted_pair : Stmt := (top 15)
theorem sc_sorted_pair : FnScope ["pair"] ["pair"] (defScope s_sorted_pair) := ⟨rfl, rfl, rfl, by decide +kernel, rfl, by decide +kernel, by decide +kernel⟩
noncomputable def F_sorted_pair (K : PySem.W.Frag) (A : Adr) : Fn := fnF 1 [.r] (sRet (gQ (qCB tupleV (aCons (qCB sortV (aCons (qCB listV (aCons (qV 0) (aNil))) (aNil))) (aNil)))))
theorem ok_sorted_pair (T : Txt K mg A) : VFn P w K mg base "sorted_pair" 1 [.r] (F_sorted_pair K A) := vfn (k := 0) T.f_sorted_pair sc_sorted_pair rfl fun f cdv AA outer s H E hr =>
  (vss_one (vs_ret (ge_q (qe_callTy call_tuple_of v_tuple T.b_tuple (by decide +kernel) (qa_cons (qe_callB (cr_sortB (hu65 hr)) v_sort T.b_sorted (by decide +kernel) (qa_cons (qe_callTy (call_listU rfl) v_list T.b_list (by decide +kernel) (qa_cons (qv 0) qa_nil)) qa_nil)) qa_nil)))))

/- sure: 0=good -/
abbrev s_sure : Stmt := (top 16)
theorem sc_sure : FnScope ["good"] ["good"] (defScope s_sure) := ⟨rfl, rfl, rfl, by decide +kernel, rfl, by decide +kernel, by decide +kernel⟩
noncomputable def F_sure (K : PySem.W.Frag) (A : Adr) : Fn := fnF 1 [.r] (sIf (gQT (tNot (tV (qV 0)))) (sRaise A.c_NoWeb) (sNext))
theorem ok_sure (T : Txt K mg A) : VFn P w K mg base "sure" 1 [.r] (F_sure K A) := vfn (k := 0) T.f_sure sc_sure rfl fun f cdv AA outer s H E hr =>
  (vss_one (vs_if (gt_q (qt_not (qt_val (qv 0)))) (vss_one (vs_raise rfl (takes_of rfl rfl rfl rfl) T.x_NoWeb)) vss_nil))

/- strengths_of: 0=hands 1=found 2=row -/
abbrev s_strengths_of : Stmt := (top 17)
theorem sc_strengths_of : FnScope ["hands", "found", "row"] ["hands"] (defScope s_strengths_of) := ⟨rfl, rfl, rfl, by decide +kernel, rfl, by decide +kernel, by decide +kernel⟩
noncomputable def F_strengths_of (K : PySem.W.Frag) (A : Adr) : Fn := fnF 3 [.r] (sSeq (sDrop (gQ (qCall [.r] (F_sure K A) (aCons (qAnd (qCB isiV (aCons (qV 0) (aCons (qC (.ty "list")) (aNil)))) (qChain leV leV (qC (.int 1)) (qCB lenV (aCons (qV 0) (aNil))) (qC k_MOST_HANDS))) (aNil))))) (sSeq (sDrop (gQ (qCall [.r] (F_sure K A) (aCons (qCB allV (aCons (qLc (iSeq (qV 0)) (.nm 2) (tYes) (qCall [.r] (F_is_hand_row K A) (aCons (qV 2) (aNil))) [2]) (aNil))) (aNil))))) (sSeq (sSet 1 (gQ (qCB dictV (aCons (qV 0) (aNil))))) (sSeq (sDrop (gQ (qCall [.r] (F_sure K A) (aCons (qOp eqV (qCB lenV (aCons (qV 1) (aNil))) (qCB lenV (aCons (qV 0) (aNil)))) (aNil))))) (sRet (gMove 1))))))
theorem ok_strengths_of (T : Txt K mg A) : VFn P w K mg base "strengths_of" 4 [.r] (F_strengths_of K A) := vfn (k := 3) T.f_strengths_of sc_strengths_of rfl fun f cdv AA outer s H E hr =>
  (vss_cons (vs_expr (ge_q (qe_call (ok_sure T) (hr.mono (by decide)) (takes_of rfl rfl rfl rfl) (qa_cons (qe_and (qe_callB call_isi v_isi T.b_isinstance (by decide +kernel) (qa_cons (qv 0) (qa_cons (qe_ty (n := "list") T.b_list) qa_nil))) (qe_one (qe_chain op_le op_le v_le v_le qe_int (qe_callB call_lenU v_len T.b_len (by decide +kernel) (qa_cons (qv 0) qa_nil)) (qe_const T.k_MOST_HANDS)))) qa_nil))))
    (vss_cons (vs_expr (ge_q (qe_call (ok_sure T) (hr.mono (by decide)) (takes_of rfl rfl rfl rfl) (qa_cons (qe_callB (cr_all rfl) v_all T.b_all (by decide +kernel) (qa_cons (qe_lc (own := [("row", 2)]) (tg := (.nm 2)) rfl sc_strengths_of.nd (qi_seq (qv 0)) (blkOk_by (own := [("row", 2)]) (N := ["hands", "found", "row"]) (sc := defScope s_strengths_of) (by decide +kernel)) (by decide) (fun _ _ _ _ _ => (pg_name (i := 2) sc_strengths_of.nd rfl (Or.inl rfl))) (fun _ _ _ _ _ => qts_nil) (fun _ _ _ _ _ => (qe_call (ok_is_hand_row T) (hr.mono (by decide)) takes0 (qa_cons (qv 2) qa_nil)))) qa_nil)) qa_nil))))
    (vss_cons (vs_set (i := 1) sc_strengths_of.nd rfl (Or.inl rfl) (ge_q (qe_callTy (call_dictU rfl) v_dict T.b_dict (by decide +kernel) (qa_cons (qv 0) qa_nil))))
    (vss_cons (vs_expr (ge_q (qe_call (ok_sure T) (hr.mono (by decide)) (takes_of rfl rfl rfl rfl) (qa_cons (qe_cmp (op_eqU hr.units) v_eq (qe_callB call_lenU v_len T.b_len (by decide +kernel) (qa_cons (qv 1) qa_nil)) (qe_callB call_lenU v_len T.b_len (by decide +kernel) (qa_cons (qv 0) qa_nil))) qa_nil))))
    (vss_one (vs_ret (ge_move (i := 1))))))))

/- pairs_of: 0=ties 1=strengths 2=found 3=pair 4=one 5=other -/
abbrev s_pairs_of : Stmt := (top 18)
theorem sc_pairs_of : FnScope ["ties", "strengths", "found", "pair", "one", "other"] ["ties", "strengths"] (defScope s_pairs_of) := ⟨rfl, rfl, rfl, by decide +kernel, rfl, by decide +kernel, by decide +kernel⟩
noncomputable def F_pairs_of (K : PySem.W.Frag) (A : Adr) : Fn := fnF 6 [.r, .r] (sSeq (sDrop (gQ (qCall [.r] (F_sure K A) (aCons (qAnd (qCB isiV (aCons (qV 0) (aCons (qC (.ty "list")) (aNil)))) (qCB allV (aCons (qLc (iSeq (qV 0)) (.nm 3) (tYes) (qCall [.r] (F_is_pair K A) (aCons (qV 3) (aNil))) [3]) (aNil)))) (aNil))))) (sSeq (sSet 2 (gQ (qCB sortV (aCons (qLc (iSeq (qV 0)) (.nm 3) (tYes) (qCall [.r] (F_sorted_pair K A) (aCons (qV 3) (aNil))) [3]) (aNil))))) (sSeq (sDrop (gQ (qCall [.r] (F_sure K A) (aCons (qCB allV (aCons (qLc (iSeq (qV 2)) (.tp [(.nm 4), (.nm 5)]) (tYes) (qAnd (qOp inU (qV 4) (qV 1)) (qOp inU (qV 5) (qV 1))) [4, 5]) (aNil))) (aNil))))) (sSeq (sDrop (gQ (qCall [.r] (F_sure K A) (aCons (qOp eqV (qLenSet (qV 2)) (qCB lenV (aCons (qV 2) (aNil)))) (aNil))))) (sRet (gMove 2))))))
theorem ok_pairs_of (T : Txt K mg A) : VFn P w K mg base "pairs_of" 3 [.r, .r] (F_pairs_of K A) := vfn (k := 2) T.f_pairs_of sc_pairs_of rfl fun f cdv AA outer s H E hr =>
  (vss_cons (vs_expr (ge_q (qe_call (ok_sure T) (hr.mono (by decide)) (takes_of rfl rfl rfl rfl) (qa_cons (qe_and (qe_callB call_isi v_isi T.b_isinstance (by decide +kernel) (qa_cons (qv 0) (qa_cons (qe_ty (n := "list") T.b_list) qa_nil))) (qe_one (qe_callB (cr_all rfl) v_all T.b_all (by decide +kernel) (qa_cons (qe_lc (own := [("pair", 3)]) (tg := (.nm 3)) rfl sc_pairs_of.nd (qi_seq (qv 0)) (blkOk_by (own := [("pair", 3)]) (N := ["ties", "strengths", "found", "pair", "one", "other"]) (sc := defScope s_pairs_of) (by decide +kernel)) (by decide) (fun _ _ _ _ _ => (pg_name (i := 3) sc_pairs_of.nd rfl (Or.inl rfl))) (fun _ _ _ _ _ => qts_nil) (fun _ _ _ _ _ => (qe_call (ok_is_pair T) (hr.mono (by decide)) takes0 (qa_cons (qv 3) qa_nil)))) qa_nil)))) qa_nil))))
    (vss_cons (vs_set (i := 2) sc_pairs_of.nd rfl (Or.inl rfl) (ge_q (qe_callB (cr_sortB (hu65 hr)) v_sort T.b_sorted (by decide +kernel) (qa_cons (qe_lc (own := [("pair", 3)]) (tg := (.nm 3)) rfl sc_pairs_of.nd (qi_seq (qv 0)) (blkOk_by (own := [("pair", 3)]) (N := ["ties", "strengths", "found", "pair", "one", "other"]) (sc := defScope s_pairs_of) (by decide +kernel)) (by decide) (fun _ _ _ _ _ => (pg_name (i := 3) sc_pairs_of.nd rfl (Or.inl rfl))) (fun _ _ _ _ _ => qts_nil) (fun _ _ _ _ _ => (qe_call (ok_sorted_pair T) (hr.mono (by decide)) takes0 (qa_cons (qv 3) qa_nil)))) qa_nil))))
    (vss_cons (vs_expr (ge_q (qe_call (ok_sure T) (hr.mono (by decide)) (takes_of rfl rfl rfl rfl) (qa_cons (qe_callB (cr_all rfl) v_all T.b_all (by decide +kernel) (qa_cons (qe_lc (own := [("one", 4), ("other", 5)]) (tg := (.tp [(.nm 4), (.nm 5)])) rfl sc_pairs_of.nd (qi_seq (qv 2)) (blkOk_by (own := [("one", 4), ("other", 5)]) (N := ["ties", "strengths", "found", "pair", "one", "other"]) (sc := defScope s_pairs_of) (by decide +kernel)) (by decide) (fun _ _ _ _ _ => (pg_tup rfl (pgs_cons (pg_name (i := 4) sc_pairs_of.nd rfl (Or.inl rfl)) (pgs_cons (pg_name (i := 5) sc_pairs_of.nd rfl (Or.inl rfl)) pgs_nil)))) (fun _ _ _ _ _ => qts_nil) (fun _ _ _ _ _ => (qe_and (qe_cmp (op_inU (hu65 hr)) v_in (qv 4) (qv 1)) (qe_one (qe_cmp (op_inU (hu65 hr)) v_in (qv 5) (qv 1)))))) qa_nil)) qa_nil))))
    (vss_cons (vs_expr (ge_q (qe_call (ok_sure T) (hr.mono (by decide)) (takes_of rfl rfl rfl rfl) (qa_cons (qe_cmp (op_eqU hr.units) v_eq (qe_lenSet rfl (hu65 hr) T.b_len T.b_set (qv 2)) (qe_callB call_lenU v_len T.b_len (by decide +kernel) (qa_cons (qv 2) qa_nil))) qa_nil))))
    (vss_one (vs_ret (ge_move (i := 2))))))))

/- Web.__init__: 0=self 1=hands 2=ties -/
abbrev s_Web___init__ : Stmt := (inClass (top 19) 0)
theorem sc_Web___init__ : FnScope ["self", "hands", "ties"] ["self", "hands", "ties"] (defScope s_Web___init__) := ⟨rfl, rfl, rfl, by decide +kernel, rfl, by decide +kernel, by decide +kernel⟩
noncomputable def F_Web___init__ (K : PySem.W.Frag) (A : Adr) : Fn := fnF 3 [.m, .r, .r] (sSeq (sFldF A.c_Web "strong" (pNm 0) (gQ (qCall [.r] (F_strengths_of K A) (aCons (qV 1) (aNil))))) (sFldF A.c_Web "pairs" (pNm 0) (gQ (qCall [.r, .r] (F_pairs_of K A) (aCons (qV 2) (aCons (qFld A.c_Web "strong" (qV 0)) (aNil)))))))
theorem ok_Web___init__ (T : Txt K mg A) : VMt P w K mg base A.c_Web "__init__" 5 [.m, .r, .r] (F_Web___init__ K A) := vmt (k := 4) T.f_Web___init__ sc_Web___init__ rfl fun f cdv AA outer s H E hr =>
  (vss_cons (vs_fld T.c_Web T.n_Web_strong (ge_q (qe_call (ok_strengths_of T) (hr.mono (by decide)) (takes_of rfl rfl rfl rfl) (qa_cons (qv 1) qa_nil))) (pp_nm 0))
    (vss_one (vs_fld T.c_Web T.n_Web_pairs (ge_q (qe_call (ok_pairs_of T) (hr.mono (by decide)) (takes_of rfl rfl rfl rfl) (qa_cons (qv 2) (qa_cons (qe_fld T.c_Web T.n_Web_strong (qv 0)) qa_nil)))) (pp_nm 0))))

/- Web.hands: 0=self -/
abbrev s_Web_hands : Stmt := (inClass (top 19) 1)
theorem sc_Web_hands : FnScope ["self"] ["self"] (defScope s_Web_hands) := ⟨rfl, rfl, rfl, by decide +kernel, rfl, by decide +kernel, by decide +kernel⟩
noncomputable def F_Web_hands (K : PySem.W.Frag) (A : Adr) : Fn := fnF 1 [.r] (sRet (gQ (qCB sortV (aCons (qCB listV (aCons (qFld A.c_Web "strong" (qV 0)) (aNil))) (aNil)))))
theorem ok_Web_hands (T : Txt K mg A) : VMt P w K mg base A.c_Web "hands" 1 [.r] (F_Web_hands K A) := vmt (k := 0) T.f_Web_hands sc_Web_hands rfl fun f cdv AA outer s H E hr =>
  (vss_one (vs_ret (ge_q (qe_callB (cr_sortB (hu65 hr)) v_sort T.b_sorted (by decide +kernel) (qa_cons (qe_callTy (call_listU rfl) v_list T.b_list (by decide +kernel) (qa_cons (qe_fld T.c_Web T.n_Web_strong (qv 0)) qa_nil)) qa_nil)))))

/- Web.check_hand: 0=self 1=hand -/
abbrev s_Web_check_hand : Stmt := (inClass (top 19) 2)
theorem sc_Web_check_hand : FnScope ["self", "hand"] ["self", "hand"] (defScope s_Web_check_hand) := ⟨rfl, rfl, rfl, by decide +kernel, rfl, by decide +kernel, by decide +kernel⟩
noncomputable def F_Web_check_hand (K : PySem.W.Frag) (A : Adr) : Fn := fnF 2 [.r, .r] (sIf (gQT (tOr (tNot (tV (qCB isiV (aCons (qV 1) (aCons (qC (.ty "str")) (aNil)))))) (tV (qOp ninU (qV 1) (qFld A.c_Web "strong" (qV 0)))))) (sRaise A.c_NoHand) (sNext))
theorem ok_Web_check_hand (T : Txt K mg A) : VMt P w K mg base A.c_Web "check_hand" 1 [.r, .r] (F_Web_check_hand K A) := vmt (k := 0) T.f_Web_check_hand sc_Web_check_hand rfl fun f cdv AA outer s H E hr =>
  (vss_one (vs_if (gt_q (PW.pt (qw_or (qt_not (qt_val (qe_callB call_isi v_isi T.b_isinstance (by decide +kernel) (qa_cons (qv 1) (qa_cons (qe_ty (n := "str") T.b_str) qa_nil))))) (qw_or1 (qt_cmp (op_notInU (hu65 hr)) v_nin (qv 1) (qe_fld T.c_Web T.n_Web_strong (qv 0))))))) (vss_one (vs_raise rfl (takes_of rfl rfl rfl rfl) T.x_NoHand)) vss_nil))

/- Web.strength: 0=self 1=hand -/
abbrev s_Web_strength : Stmt := (inClass (top 19) 3)
theorem sc_Web_strength : FnScope ["self", "hand"] ["self", "hand"] (defScope s_Web_strength) := ⟨rfl, rfl, rfl, by decide +kernel, rfl, by decide +kernel, by decide +kernel⟩
noncomputable def F_Web_strength (K : PySem.W.Frag) (A : Adr) : Fn := fnF 2 [.r, .r] (sSeq (sDrop (gQ (qMeth A.c_Web "check_hand" [.r, .r] (F_Web_check_hand K A) (qV 0) (aCons (qV 1) (aNil))))) (sRet (gQ (qOp ixV (qFld A.c_Web "strong" (qV 0)) (qV 1)))))
theorem ok_Web_strength (T : Txt K mg A) : VMt P w K mg base A.c_Web "strength" 2 [.r, .r] (F_Web_strength K A) := vmt (k := 1) T.f_Web_strength sc_Web_strength rfl fun f cdv AA outer s H E hr =>
  (vss_cons (vs_expr (ge_q (qe_meth T.c_Web (ok_Web_check_hand T) (hr.mono (by decide)) (takes_of rfl rfl rfl rfl) (qv 0) (qa_cons (qv 1) qa_nil))))
    (vss_one (vs_ret (ge_q (qe_ix (ix_U (hu1 hr)) v_ix (qe_fld T.c_Web T.n_Web_strong (qv 0)) (qv 1))))))

/- Web.neighbours: 0=self 1=hand 2=found 3=one 4=other -/
abbrev s_Web_neighbours : Stmt := (inClass (top 19) 4)
theorem sc_Web_neighbours : FnScope ["self", "hand", "found", "one", "other"] ["self", "hand"] (defScope s_Web_neighbours) := ⟨rfl, rfl, rfl, by decide +kernel, rfl, by decide +kernel, by decide +kernel⟩
noncomputable def B0_Web_neighbours (K : PySem.W.Frag) (A : Adr) : FS := sKillO [3, 4] (sSeq (sIf (gQT (tV (qOp eqV (qV 3) (qV 1)))) (sDrop (gLm fAppend 2 (lCons (gFz 4) (lNil)))) (sNext)) (sIf (gQT (tV (qOp eqV (qV 4) (qV 1)))) (sDrop (gLm fAppend 2 (lCons (gMove 3) (lNil)))) (sNext)))
noncomputable def F_Web_neighbours (K : PySem.W.Frag) (A : Adr) : Fn := fnF 5 [.r, .r] (sSeq (sDrop (gQ (qMeth A.c_Web "check_hand" [.r, .r] (F_Web_check_hand K A) (qV 0) (aCons (qV 1) (aNil))))) (sSeq (sSet 2 (gQ (qLst (aNil)))) (sSeq (sFor (giSeq (gQ (qFld A.c_Web "pairs" (qV 0)))) (.tp [(.nm 3), (.nm 4)]) (B0_Web_neighbours K A)) (sRet (gQ (qCB sortV (aCons (qV 2) (aNil))))))))
theorem ok_Web_neighbours (T : Txt K mg A) : VMt P w K mg base A.c_Web "neighbours" 2 [.r, .r] (F_Web_neighbours K A) := vmt (k := 1) T.f_Web_neighbours sc_Web_neighbours rfl fun f cdv AA outer s H E hr =>
  (vss_cons (vs_expr (ge_q (qe_meth T.c_Web (ok_Web_check_hand T) (hr.mono (by decide)) (takes_of rfl rfl rfl rfl) (qv 0) (qa_cons (qv 1) qa_nil))))
    (vss_cons (vs_set (i := 2) sc_Web_neighbours.nd rfl (Or.inl rfl) (ge_q (qe_lst qa_nil)))
    (vss_cons (vs_for (tg := (.tp [(.nm 3), (.nm 4)])) (passes_of rfl) rfl (gi_seq (ge_q (qe_fld T.c_Web T.n_Web_pairs (qv 0)))) (tg_tp rfl (tgs_cons (tg_nm (i := 3) sc_Web_neighbours.nd rfl (Or.inl rfl)) (tgs_cons (tg_nm (i := 4) sc_Web_neighbours.nd rfl (Or.inl rfl)) tgs_nil))) (vss_killO (is := [3, 4]) (vss_cons (vs_if (gt_q (qt_cmp (op_eqU hr.units) v_eq (qv 3) (qv 1))) (vss_one (vs_expr (ge_lm PySem.F.slot_list_append PySem.F.type_list_append mt_append rm_append 2 (gl_cons (ge_fz (i := 4)) gl_nil)))) vss_nil)
    (vss_one (vs_if (gt_q (qt_cmp (op_eqU hr.units) v_eq (qv 4) (qv 1))) (vss_one (vs_expr (ge_lm PySem.F.slot_list_append PySem.F.type_list_append mt_append rm_append 2 (gl_cons (ge_move (i := 3)) gl_nil)))) vss_nil)))))
    (vss_one (vs_ret (ge_q (qe_callB (cr_sortB (hu65 hr)) v_sort T.b_sorted (by decide +kernel) (qa_cons (qv 2) qa_nil))))))))

/- Web.are_tied: 0=self 1=one 2=other -/
abbrev s_Web_are_tied : Stmt := (inClass (top 19) 5)
theorem sc_Web_are_tied : FnScope ["self", "one", "other"] ["self", "one", "other"] (defScope s_Web_are_tied) := ⟨rfl, rfl, rfl, by decide +kernel, rfl, by decide +kernel, by decide +kernel⟩
noncomputable def F_Web_are_tied (K : PySem.W.Frag) (A : Adr) : Fn := fnF 3 [.r, .r, .r] (sRet (gQ (qAnd (qCall [.r] (F_is_pair K A) (aCons (qTup (aCons (qV 1) (aCons (qV 2) (aNil)))) (aNil))) (qOp inU (qCall [.r] (F_sorted_pair K A) (aCons (qTup (aCons (qV 1) (aCons (qV 2) (aNil)))) (aNil))) (qFld A.c_Web "pairs" (qV 0))))))
theorem ok_Web_are_tied (T : Txt K mg A) : VMt P w K mg base A.c_Web "are_tied" 3 [.r, .r, .r] (F_Web_are_tied K A) := vmt (k := 2) T.f_Web_are_tied sc_Web_are_tied rfl fun f cdv AA outer s H E hr =>
  (vss_one (vs_ret (ge_q (qe_and (qe_call (ok_is_pair T) (hr.mono (by decide)) (takes_of rfl rfl rfl rfl) (qa_cons (qe_tup (qa_cons (qv 1) (qa_cons (qv 2) qa_nil))) qa_nil)) (qe_one (qe_cmp (op_inU (hu65 hr)) v_in (qe_call (ok_sorted_pair T) (hr.mono (by decide)) (takes_of rfl rfl rfl rfl) (qa_cons (qe_tup (qa_cons (qv 1) (qa_cons (qv 2) qa_nil))) qa_nil)) (qe_fld T.c_Web T.n_Web_pairs (qv 0))))))))

/- Web.ties: 0=self -/
abbrev s_Web_ties : Stmt := (inClass (top 19) 6)
theorem sc_Web_ties : FnScope ["self"] ["self"] (defScope s_Web_ties) := ⟨rfl, rfl, rfl, by decide +kernel, rfl, by decide +kernel, by decide +kernel⟩
noncomputable def F_Web_ties (K : PySem.W.Frag) (A : Adr) : Fn := fnF 1 [.r] (sRet (gQ (qCB listV (aCons (qFld A.c_Web "pairs" (qV 0)) (aNil)))))
theorem ok_Web_ties (T : Txt K mg A) : VMt P w K mg base A.c_Web "ties" 1 [.r] (F_Web_ties K A) := vmt (k := 0) T.f_Web_ties sc_Web_ties rfl fun f cdv AA outer s H E hr =>
  (vss_one (vs_ret (ge_q (qe_callTy (call_listU rfl) v_list T.b_list (by decide +kernel) (qa_cons (qe_fld T.c_Web T.n_Web_pairs (qv 0)) qa_nil)))))

/- Web.most_neighbours: 0=self 1=hand -/
abbrev s_Web_most_neighbours : Stmt := (inClass (top 19) 7)
theorem sc_Web_most_neighbours : FnScope ["self", "hand"] ["self"] (defScope s_Web_most_neighbours) := ⟨rfl, rfl, rfl, by decide +kernel, rfl, by decide +kernel, by decide +kernel⟩
noncomputable def F_Web_most_neighbours (K : PySem.W.Frag) (A : Adr) : Fn := fnF 2 [.r] (sRet (gQ (qCB maxV (aCons (qLcK (qFld A.c_Web "strong" (qV 0)) (.nm 1) (tYes) (qCB lenV (aCons (qMeth A.c_Web "neighbours" [.r, .r] (F_Web_neighbours K A) (qV 0) (aCons (qV 1) (aNil))) (aNil))) [1]) (aNil)))))
theorem ok_Web_most_neighbours (T : Txt K mg A) : VMt P w K mg base A.c_Web "most_neighbours" 3 [.r] (F_Web_most_neighbours K A) := vmt (k := 2) T.f_Web_most_neighbours sc_Web_most_neighbours rfl fun f cdv AA outer s H E hr =>
  (vss_one (vs_ret (ge_q (qe_callB (call_maxU rfl) v_max T.b_max (by decide +kernel) (qa_cons (qe_lcK (own := [("hand", 1)]) (tg := (.nm 1)) rfl sc_Web_most_neighbours.nd (dp_fld T.c_Web T.n_Web_strong 0) (blkOk_by (own := [("hand", 1)]) (N := ["self", "hand"]) (sc := defScope s_Web_most_neighbours) (by decide +kernel)) (by decide) (fun _ _ _ _ _ => (pg_name (i := 1) sc_Web_most_neighbours.nd rfl (Or.inl rfl))) (fun _ _ _ _ _ => qts_nil) (fun _ _ _ _ _ => (qe_callB call_lenU v_len T.b_len (by decide +kernel) (qa_cons (qe_meth T.c_Web (ok_Web_neighbours T) (hr.mono (by decide)) takes0 (qv 0) (qa_cons (qv 1) qa_nil)) qa_nil)))) qa_nil)))))

/- _law_digit: 0=_law_state 1=_law_base 2=_law_found 3=_law_number -/
abbrev s__law_digit : Stmt := (top 22)
theorem sc__law_digit : FnScope ["_law_state", "_law_base", "_law_found", "_law_number"] ["_law_state", "_law_base"] (defScope s__law_digit) := ⟨rfl, rfl, rfl, by decide +kernel, rfl, by decide +kernel, by decide +kernel⟩
noncomputable def F__law_digit (K : PySem.W.Frag) (A : Adr) : Fn := fnF 4 [.m, .r] (sSeq (sIf (gQT (tV (qOp eqV (qCB lenV (aCons (qV 0) (aNil))) (qC (.int 1))))) (sDrop (gLm fExtend 0 (lCons (gQ (qLst (aCons (qOp modV (qOp ixV (qV 0) (qC (.int 0))) (qC (.int 2147483647))) (aCons (qC (.int 0)) (aNil))))) (lNil)))) (sNext)) (sSeq (sIf (gQT (tV (qOp gtV (qOp ixV (qV 0) (qC (.int 0))) (qC (.int 0))))) (sSeq (sSet 2 (gQ (qOp modV (qOp ixV (qV 0) (qC (.int 0))) (qV 1)))) (sSeq (sSubL (pNm 0) (qC (.int 0)) (gQ (qOp fdivV (qOp ixV (qV 0) (qC (.int 0))) (qV 1)))) (sRet (gQ (qV 2))))) (sNext)) (sSeq (sSubL (pNm 0) (qC (.int 2)) (gQ (qOp addV (qOp ixV (qV 0) (qC (.int 2))) (qC (.int 1))))) (sSeq (sSet 3 (gQ (qOp modV (qOp mulV (qOp addV (qOp addV (qOp ixV (qV 0) (qC (.int 1))) (qOp mulV (qC (.int 7919)) (qOp ixV (qV 0) (qC (.int 2))))) (qC (.int 1))) (qC (.int 48271))) (qC (.int 2147483647))))) (sSeq (sSet 3 (gQ (qOp modV (qOp mulV (qV 3) (qOp addV (qOp fdivV (qV 3) (qC (.int 1009))) (qC (.int 69621)))) (qC (.int 2147483647))))) (sRet (gQ (qOp modV (qOp modV (qOp mulV (qV 3) (qOp addV (qOp fdivV (qV 3) (qC (.int 2003))) (qC (.int 40692)))) (qC (.int 2147483399))) (qV 1)))))))))
theorem ok__law_digit (T : Txt K mg A) : VFn P w K mg base "_law_digit" 1 [.m, .r] (F__law_digit K A) := vfn (k := 0) T.f__law_digit sc__law_digit rfl fun f cdv AA outer s H E hr =>
  (vss_cons (vs_if (gt_q (qt_cmp (op_eqU hr.units) v_eq (qe_callB call_lenU v_len T.b_len (by decide +kernel) (qa_cons (qv 0) qa_nil)) qe_int)) (vss_one (vs_expr (ge_lm PySem.F.slot_list_extend PySem.F.type_list_extend mt_extend rm_extend 0 (gl_cons (ge_q (qe_lst (qa_cons (qe_op op_mod v_mod (qe_ix (ix_U (hu1 hr)) v_ix (qv 0) qe_int) qe_int) (qa_cons qe_int qa_nil)))) gl_nil)))) vss_nil)
    (vss_cons (vs_if (gt_q (qt_cmp op_gt v_gt (qe_ix (ix_U (hu1 hr)) v_ix (qv 0) qe_int) qe_int)) (vss_cons (vs_set (i := 2) sc__law_digit.nd rfl (Or.inl rfl) (ge_q (qe_op op_mod v_mod (qe_ix (ix_U (hu1 hr)) v_ix (qv 0) qe_int) (qv 1))))
    (vss_cons (vs_subL (hu1 hr) (ge_q (qe_op op_fdivW v_fdiv (qe_ix (ix_U (hu1 hr)) v_ix (qv 0) qe_int) (qv 1))) (pp_nm 0) qe_int)
    (vss_one (vs_ret (ge_q (qv 2)))))) vss_nil)
    (vss_cons (vs_subL (hu1 hr) (ge_q (qe_op (op_addU) v_add (qe_ix (ix_U (hu1 hr)) v_ix (qv 0) qe_int) qe_int)) (pp_nm 0) qe_int)
    (vss_cons (vs_set (i := 3) sc__law_digit.nd rfl (Or.inl rfl) (ge_q (qe_op op_mod v_mod (qe_op op_mulU v_mul (qe_op (op_addU) v_add (qe_op (op_addU) v_add (qe_ix (ix_U (hu1 hr)) v_ix (qv 0) qe_int) (qe_op op_mulU v_mul qe_int (qe_ix (ix_U (hu1 hr)) v_ix (qv 0) qe_int))) qe_int) qe_int) qe_int)))
    (vss_cons (vs_set (i := 3) sc__law_digit.nd rfl (Or.inl rfl) (ge_q (qe_op op_mod v_mod (qe_op op_mulU v_mul (qv 3) (qe_op (op_addU) v_add (qe_op op_fdivW v_fdiv (qv 3) qe_int) qe_int)) qe_int)))
    (vss_one (vs_ret (ge_q (qe_op op_mod v_mod (qe_op op_mod v_mod (qe_op op_mulU v_mul (qv 3) (qe_op (op_addU) v_add (qe_op op_fdivW v_fdiv (qv 3) qe_int) qe_int)) qe_int) (qv 1))))))))))

/- _law_name: 0=_law_state 1=_law_found 2=_law_k -/
abbrev s__law_name : Stmt := (top 23)
theorem sc__law_name : FnScope ["_law_state", "_law_found", "_law_k"] ["_law_state"] (defScope s__law_name) := ⟨rfl, rfl, rfl, by decide +kernel, rfl, by decide +kernel, by decide +kernel⟩
noncomputable def B0__law_name (K : PySem.W.Frag) (A : Adr) : FS := sKillO [2] (sSet 1 (gOp addV (gQ (qV 1)) (gOp ixV (gQ (qC (.str "abcdefghijklmnopqrstuvwxyz"))) (gCall (F__law_digit K A) (faQ [.m 0, .q (qC (.int 26))])))))
noncomputable def F__law_name (K : PySem.W.Frag) (A : Adr) : Fn := fnF 3 [.m] (sSeq (sSet 1 (gQ (qC (.str "")))) (sSeq (sFor (giRange rng1 (gCons (gOp addV (gQ (qC (.int 1))) (gCall (F__law_digit K A) (faQ [.m 0, .q (qC (.int 8))]))) (gNil))) (.nm 2) (B0__law_name K A)) (sRet (gMove 1))))
theorem ok__law_name (T : Txt K mg A) : VFn P w K mg base "_law_name" 2 [.m] (F__law_name K A) := vfn (k := 1) T.f__law_name sc__law_name rfl fun f cdv AA outer s H E hr =>
  (vss_cons (vs_set (i := 1) sc__law_name.nd rfl (Or.inl rfl) (ge_q qe_str))
    (vss_cons (vs_for (tg := (.nm 2)) (passes_of rfl) rfl (gi_range1 T.b_range (ga_cons (ge_op (op_addU) v_add (ge_q qe_int) (ge_call (ok__law_digit T) (hr.mono (by decide)) (takes_of rfl rfl rfl rfl) (ca_q (.m 0 (.q qe_int .nil))))) ga_nil)) (tg_nm (i := 2) sc__law_name.nd rfl (Or.inl rfl)) (vss_killO (is := [2]) (vss_one (vs_set (i := 1) sc__law_name.nd rfl (Or.inl rfl) (ge_op (op_addU) v_add (ge_q (qv 1)) (ge_ix (ix_U (hu1 hr)) v_ix (ge_q qe_str) (ge_call (ok__law_digit T) (hr.mono (by decide)) (takes_of rfl rfl rfl rfl) (ca_q (.m 0 (.q qe_int .nil))))))))))
    (vss_one (vs_ret (ge_move (i := 1))))))

/- _law_hands: 0=_law_state 1=_law_most 2=_law_found 3=_law_k 4=_law_name_here 5=_law_strength 6=_law_one -/
abbrev s__law_hands : Stmt := (top 24)
theorem sc__law_hands : FnScope ["_law_state", "_law_most", "_law_found", "_law_k", "_law_name_here", "_law_strength", "_law_one"] ["_law_state", "_law_most"] (defScope s__law_hands) := ⟨rfl, rfl, rfl, by decide +kernel, rfl, by decide +kernel, by decide +kernel⟩
noncomputable def B0__law_hands (K : PySem.W.Frag) (A : Adr) : FS := sKillO [3, 4, 5, 6] (sSeq (sSet 4 (gCall (F__law_name K A) (faQ [.m 0]))) (sIf (gQT (tV (qOp ninU (qV 4) (qLc (iSeq (qV 2)) (.tp [(.nm 6), (.nm 5)]) (tYes) (qV 6) [6, 5])))) (sSeq (sSet 5 (gOp ixV (gSt (gLstL (lCons (gQ (qC (.int 1))) (lCons (gOp addV (gQ (qC (.int 1))) (gCall (F__law_digit K A) (faQ [.m 0, .q (qC (.int 9))]))) (lCons (gOp addV (gQ (qC (.int 1))) (gCall (F__law_digit K A) (faQ [.m 0, .q (qC (.int 1000))]))) (lCons (gQ (qC (.int 1000))) (lNil))))))) (gCall (F__law_digit K A) (faQ [.m 0, .q (qC (.int 4))])))) (sDrop (gLm fInsert 2 (lCons (gCall (F__law_digit K A) (faQ [.m 0, .q (qOp addV (qCB lenV (aCons (qV 2) (aNil))) (qC (.int 1)))])) (lCons (gTupL (lCons (gQ (qV 4)) (lCons (gFz 5) (lNil)))) (lNil)))))) (sNext)))
noncomputable def F__law_hands (K : PySem.W.Frag) (A : Adr) : Fn := fnF 7 [.m, .r] (sSeq (sSet 2 (gQ (qLst (aNil)))) (sSeq (sFor (giRange rng1 (gCons (gOp addV (gQ (qC (.int 1))) (gCall (F__law_digit K A) (faQ [.m 0, .q (qV 1)]))) (gNil))) (.nm 3) (B0__law_hands K A)) (sRet (gMove 2))))
theorem ok__law_hands (T : Txt K mg A) : VFn P w K mg base "_law_hands" 3 [.m, .r] (F__law_hands K A) := vfn (k := 2) T.f__law_hands sc__law_hands rfl fun f cdv AA outer s H E hr =>
  (vss_cons (vs_set (i := 2) sc__law_hands.nd rfl (Or.inl rfl) (ge_q (qe_lst qa_nil)))
    (vss_cons (vs_for (tg := (.nm 3)) (passes_of rfl) rfl (gi_range1 T.b_range (ga_cons (ge_op (op_addU) v_add (ge_q qe_int) (ge_call (ok__law_digit T) (hr.mono (by decide)) (takes_of rfl rfl rfl rfl) (ca_q (.m 0 (.q (qv 1) .nil))))) ga_nil)) (tg_nm (i := 3) sc__law_hands.nd rfl (Or.inl rfl)) (vss_killO (is := [3, 4, 5, 6]) (vss_cons (vs_set (i := 4) sc__law_hands.nd rfl (Or.inl rfl) (ge_call (ok__law_name T) (hr.mono (by decide)) (takes_of rfl rfl rfl rfl) (ca_q (.m 0 .nil))))
    (vss_one (vs_if (gt_q (qt_cmp (op_notInU (hu65 hr)) v_nin (qv 4) (qe_lc (own := [("_law_one", 6), ("_law_strength", 5)]) (tg := (.tp [(.nm 6), (.nm 5)])) rfl sc__law_hands.nd (qi_seq (qv 2)) (blkOk_by (own := [("_law_one", 6), ("_law_strength", 5)]) (N := ["_law_state", "_law_most", "_law_found", "_law_k", "_law_name_here", "_law_strength", "_law_one"]) (sc := defScope s__law_hands) (by decide +kernel)) (by decide) (fun _ _ _ _ _ => (pg_tup rfl (pgs_cons (pg_name (i := 6) sc__law_hands.nd rfl (Or.inl rfl)) (pgs_cons (pg_name (i := 5) sc__law_hands.nd rfl (Or.inl rfl)) pgs_nil)))) (fun _ _ _ _ _ => qts_nil) (fun _ _ _ _ _ => (qv 6))))) (vss_cons (vs_set (i := 5) sc__law_hands.nd rfl (Or.inl rfl) (ge_ix (ix_U (hu1 hr)) v_ix (ge_st (ge_lstL (gl_cons (ge_q qe_int) (gl_cons (ge_op (op_addU) v_add (ge_q qe_int) (ge_call (ok__law_digit T) (hr.mono (by decide)) (takes_of rfl rfl rfl rfl) (ca_q (.m 0 (.q qe_int .nil))))) (gl_cons (ge_op (op_addU) v_add (ge_q qe_int) (ge_call (ok__law_digit T) (hr.mono (by decide)) (takes_of rfl rfl rfl rfl) (ca_q (.m 0 (.q qe_int .nil))))) (gl_cons (ge_q qe_int) gl_nil)))))) (ge_call (ok__law_digit T) (hr.mono (by decide)) (takes_of rfl rfl rfl rfl) (ca_q (.m 0 (.q qe_int .nil))))))
    (vss_one (vs_expr (ge_lm PySem.F.slot_list_insert PySem.F.type_list_insert mt_insert rm_insert 2 (gl_cons (ge_call (ok__law_digit T) (hr.mono (by decide)) (takes_of rfl rfl rfl rfl) (ca_q (.m 0 (.q (qe_op (op_addU) v_add (qe_callB call_lenU v_len T.b_len (by decide +kernel) (qa_cons (qv 2) qa_nil)) qe_int) .nil)))) (gl_cons (ge_tupL (gl_cons (ge_q (qv 4)) (gl_cons (ge_fz (i := 5)) gl_nil))) gl_nil)))))) vss_nil)))))
    (vss_one (vs_ret (ge_move (i := 2))))))

/- _law_ties: 0=_law_state 1=_law_hands_here 2=_law_names 3=_law_few 4=_law_found 5=_law_k 6=_law_other 7=_law_tie 8=_law_name_here 9=_law_strength -/
abbrev s__law_ties : Stmt := (top 25)
theorem sc__law_ties : FnScope ["_law_state", "_law_hands_here", "_law_names", "_law_few", "_law_found", "_law_k", "_law_other", "_law_tie", "_law_name_here", "_law_strength"] ["_law_state", "_law_hands_here"] (defScope s__law_ties) := ⟨rfl, rfl, rfl, by decide +kernel, rfl, by decide +kernel, by decide +kernel⟩
noncomputable def B0__law_ties (K : PySem.W.Frag) (A : Adr) : FS := sKillO [6, 7] (sIf (gTV (gOp ltV (gCall (F__law_digit K A) (faQ [.m 0, .q (qC (.int 4))])) (gQ (qV 3)))) (sSeq (sSet 7 (gOp ixV (gSt (gQ (qLst (aCons (qTup (aCons (qOp ixV (qV 2) (qV 5)) (aCons (qV 6) (aNil)))) (aCons (qTup (aCons (qV 6) (aCons (qOp ixV (qV 2) (qV 5)) (aNil)))) (aNil)))))) (gCall (F__law_digit K A) (faQ [.m 0, .q (qC (.int 2))])))) (sDrop (gLm fInsert 4 (lCons (gCall (F__law_digit K A) (faQ [.m 0, .q (qOp addV (qCB lenV (aCons (qV 4) (aNil))) (qC (.int 1)))])) (lCons (gFz 7) (lNil)))))) (sNext))
noncomputable def B1__law_ties (K : PySem.W.Frag) (A : Adr) : FS := sKillO [5, 6, 7] (sFor (giSeq (gQ (qSl slV (qV 2) oNone (oSome (qV 5))))) (.nm 6) (B0__law_ties K A))
noncomputable def F__law_ties (K : PySem.W.Frag) (A : Adr) : Fn := fnF 10 [.m, .r] (sSeq (sSet 2 (gQ (qLc (iSeq (qV 1)) (.tp [(.nm 8), (.nm 9)]) (tYes) (qV 8) [8, 9]))) (sSeq (sSet 3 (gOp addV (gQ (qC (.int 1))) (gCall (F__law_digit K A) (faQ [.m 0, .q (qC (.int 3))])))) (sSeq (sSet 4 (gQ (qLst (aNil)))) (sSeq (sFor (giRange rng1 (gCons (gQ (qCB lenV (aCons (qV 2) (aNil)))) (gNil))) (.nm 5) (B1__law_ties K A)) (sRet (gMove 4))))))
theorem ok__law_ties (T : Txt K mg A) : VFn P w K mg base "_law_ties" 2 [.m, .r] (F__law_ties K A) := vfn (k := 1) T.f__law_ties sc__law_ties rfl fun f cdv AA outer s H E hr =>
  (vss_cons (vs_setLc (i := 2) (own := [("_law_name_here", 8), ("_law_strength", 9)]) (tg := (.tp [(.nm 8), (.nm 9)])) rfl sc__law_ties.nd rfl rfl (sw_true rfl rfl rfl (by decide +kernel)) (qi_seq (qv 1)) (blkOk_by (own := [("_law_name_here", 8), ("_law_strength", 9)]) (N := ["_law_state", "_law_hands_here", "_law_names", "_law_few", "_law_found", "_law_k", "_law_other", "_law_tie", "_law_name_here", "_law_strength"]) (sc := defScope s__law_ties) (by decide +kernel)) (by decide) (fun _ _ _ _ _ => (pg_tup rfl (pgs_cons (pg_name (i := 8) sc__law_ties.nd rfl (Or.inl rfl)) (pgs_cons (pg_name (i := 9) sc__law_ties.nd rfl (Or.inl rfl)) pgs_nil)))) (fun _ _ _ _ _ => qts_nil) (fun _ _ _ _ _ => (qv 8)))
    (vss_cons (vs_set (i := 3) sc__law_ties.nd rfl (Or.inl rfl) (ge_op (op_addU) v_add (ge_q qe_int) (ge_call (ok__law_digit T) (hr.mono (by decide)) (takes_of rfl rfl rfl rfl) (ca_q (.m 0 (.q qe_int .nil))))))
    (vss_cons (vs_set (i := 4) sc__law_ties.nd rfl (Or.inl rfl) (ge_q (qe_lst qa_nil)))
    (vss_cons (vs_for (tg := (.nm 5)) (passes_of rfl) rfl (gi_range1 T.b_range (ga_cons (ge_q (qe_callB call_lenU v_len T.b_len (by decide +kernel) (qa_cons (qv 2) qa_nil))) ga_nil)) (tg_nm (i := 5) sc__law_ties.nd rfl (Or.inl rfl)) (vss_killO (is := [5, 6, 7]) (vss_one (vs_for (tg := (.nm 6)) (passes_of rfl) rfl (gi_seq (ge_q (qe_slice sl_U v_sl (qv 2) qo_none (qo_some (qv 5))))) (tg_nm (i := 6) sc__law_ties.nd rfl (Or.inl rfl)) (vss_killO (is := [6, 7]) (vss_one (vs_if (gt_cmp op_ltU v_lt (ge_call (ok__law_digit T) (hr.mono (by decide)) (takes_of rfl rfl rfl rfl) (ca_q (.m 0 (.q qe_int .nil)))) (ge_q (qv 3))) (vss_cons (vs_set (i := 7) sc__law_ties.nd rfl (Or.inl rfl) (ge_ix (ix_U (hu1 hr)) v_ix (ge_st (ge_q (qe_lst (qa_cons (qe_tup (qa_cons (qe_ix (ix_U (hu1 hr)) v_ix (qv 2) (qv 5)) (qa_cons (qv 6) qa_nil))) (qa_cons (qe_tup (qa_cons (qv 6) (qa_cons (qe_ix (ix_U (hu1 hr)) v_ix (qv 2) (qv 5)) qa_nil))) qa_nil))))) (ge_call (ok__law_digit T) (hr.mono (by decide)) (takes_of rfl rfl rfl rfl) (ca_q (.m 0 (.q qe_int .nil))))))
    (vss_one (vs_expr (ge_lm PySem.F.slot_list_insert PySem.F.type_list_insert mt_insert rm_insert 4 (gl_cons (ge_call (ok__law_digit T) (hr.mono (by decide)) (takes_of rfl rfl rfl rfl) (ca_q (.m 0 (.q (qe_op (op_addU) v_add (qe_callB call_lenU v_len T.b_len (by decide +kernel) (qa_cons (qv 4) qa_nil)) qe_int) .nil)))) (gl_cons (ge_fz (i := 7)) gl_nil)))))) vss_nil)))))))
    (vss_one (vs_ret (ge_move (i := 4))))))))

/- _law_of: 0=_law_ties_here 1=_law_hand 2=_law_found 3=_law_one 4=_law_other -/
abbrev s__law_of : Stmt := (top 26)
theorem sc__law_of : FnScope ["_law_ties_here", "_law_hand", "_law_found", "_law_one", "_law_other"] ["_law_ties_here", "_law_hand"] (defScope s__law_of) := ⟨rfl, rfl, rfl, by decide +kernel, rfl, by decide +kernel, by decide +kernel⟩
noncomputable def F__law_of (K : PySem.W.Frag) (A : Adr) : Fn := fnF 5 [.r, .r] (sSeq (sSet 2 (gQ (qOp addV (qLc (iSeq (qV 0)) (.tp [(.nm 3), (.nm 4)]) (tV (qOp eqV (qV 4) (qV 1))) (qV 3) [3, 4]) (qLc (iSeq (qV 0)) (.tp [(.nm 3), (.nm 4)]) (tV (qOp eqV (qV 3) (qV 1))) (qV 4) [3, 4])))) (sRet (gQ (qCB sortV (aCons (qV 2) (aNil))))))
theorem ok__law_of (T : Txt K mg A) : VFn P w K mg base "_law_of" 1 [.r, .r] (F__law_of K A) := vfn (k := 0) T.f__law_of sc__law_of rfl fun f cdv AA outer s H E hr =>
  (vss_cons (vs_set (i := 2) sc__law_of.nd rfl (Or.inl rfl) (ge_q (qe_op (op_addU) v_add (qe_lc (own := [("_law_one", 3), ("_law_other", 4)]) (tg := (.tp [(.nm 3), (.nm 4)])) rfl sc__law_of.nd (qi_seq (qv 0)) (blkOk_by (own := [("_law_one", 3), ("_law_other", 4)]) (N := ["_law_ties_here", "_law_hand", "_law_found", "_law_one", "_law_other"]) (sc := defScope s__law_of) (by decide +kernel)) (by decide) (fun _ _ _ _ _ => (pg_tup rfl (pgs_cons (pg_name (i := 3) sc__law_of.nd rfl (Or.inl rfl)) (pgs_cons (pg_name (i := 4) sc__law_of.nd rfl (Or.inl rfl)) pgs_nil)))) (fun _ _ _ _ _ => (qts_one (qt_cmp (op_eqU hr.units) v_eq (qv 4) (qv 1)))) (fun _ _ _ _ _ => (qv 3))) (qe_lc (own := [("_law_one", 3), ("_law_other", 4)]) (tg := (.tp [(.nm 3), (.nm 4)])) rfl sc__law_of.nd (qi_seq (qv 0)) (blkOk_by (own := [("_law_one", 3), ("_law_other", 4)]) (N := ["_law_ties_here", "_law_hand", "_law_found", "_law_one", "_law_other"]) (sc := defScope s__law_of) (by decide +kernel)) (by decide) (fun _ _ _ _ _ => (pg_tup rfl (pgs_cons (pg_name (i := 3) sc__law_of.nd rfl (Or.inl rfl)) (pgs_cons (pg_name (i := 4) sc__law_of.nd rfl (Or.inl rfl)) pgs_nil)))) (fun _ _ _ _ _ => (qts_one (qt_cmp (op_eqU hr.units) v_eq (qv 3) (qv 1)))) (fun _ _ _ _ _ => (qv 4))))))
    (vss_one (vs_ret (ge_q (qe_callB (cr_sortB (hu65 hr)) v_sort T.b_sorted (by decide +kernel) (qa_cons (qv 2) qa_nil))))))

/- _law_right: 0=_law_web 1=_law_hands_here 2=_law_ties_here 3=_law_name_here 4=_law_strength 5=_law_names 6=_law_told 7=_law_near 8=_law_other 9=_law_found 10=_law_one 11=_law_tie -/
abbrev s__law_right : Stmt := (top 27)
theorem sc__law_right : FnScope ["_law_web", "_law_hands_here", "_law_ties_here", "_law_name_here", "_law_strength", "_law_names", "_law_told", "_law_near", "_law_other", "_law_found", "_law_one", "_law_tie"] ["_law_web", "_law_hands_here", "_law_ties_here"] (defScope s__law_right) := ⟨rfl, rfl, rfl, by decide +kernel, rfl, by decide +kernel, by decide +kernel⟩
noncomputable def B0__law_right (K : PySem.W.Frag) (A : Adr) : FS := sKillO [8, 9] (sSeq (sSet 9 (gQ (qMeth A.c_Web "are_tied" [.r, .r, .r] (F_Web_are_tied K A) (qV 0) (aCons (qV 3) (aCons (qV 8) (aNil)))))) (sIf (gQT (tOr (tNot (tV (qCB isiV (aCons (qV 9) (aCons (qC (.ty "bool")) (aNil)))))) (tV (qOp neV (qV 9) (qOp inU (qV 8) (qV 7)))))) (sRet (gQ (qC (.bl false)))) (sNext)))
noncomputable def B1__law_right (K : PySem.W.Frag) (A : Adr) : FS := sKillO [7, 8, 9] (sSeq (sSet 7 (gQ (qMeth A.c_Web "neighbours" [.r, .r] (F_Web_neighbours K A) (qV 0) (aCons (qV 3) (aNil))))) (sSeq (sIf (gQT (tOr (tV (qOp neV (qMeth A.c_Web "strength" [.r, .r] (F_Web_strength K A) (qV 0) (aCons (qV 3) (aNil))) (qV 4))) (tOr (tNot (tV (qCB isiV (aCons (qV 7) (aCons (qC (.ty "list")) (aNil)))))) (tV (qOp neV (qV 7) (qCall [.r, .r] (F__law_of K A) (aCons (qV 2) (aCons (qV 3) (aNil))))))))) (sRet (gQ (qC (.bl false)))) (sNext)) (sSeq (sFor (giSeq (gFz 5)) (.nm 8) (B0__law_right K A)) (sDrop (gLm fAppend 7 (lCons (gFz 3) (lNil)))))))
noncomputable def B2__law_right (K : PySem.W.Frag) (A : Adr) : FS := sKillO [10] (sDrop (gLm fAppend 10 (lCons (gQ (qTup (aCons (qC (.str "a")) (aCons (qC (.str "b")) (aNil))))) (lNil))))
noncomputable def F__law_right (K : PySem.W.Frag) (A : Adr) : Fn := fnF 12 [.r, .r, .r] (sSeq (sSet 5 (gQ (qCB sortV (aCons (qLc (iSeq (qV 1)) (.tp [(.nm 3), (.nm 4)]) (tYes) (qV 3) [3, 4]) (aNil))))) (sSeq (sSet 6 (gLstL (lCons (gQ (qMeth A.c_Web "hands" [.r] (F_Web_hands K A) (qV 0) aNil)) (lCons (gQ (qMeth A.c_Web "ties" [.r] (F_Web_ties K A) (qV 0) aNil)) (lNil))))) (sSeq (sIf (gQT (tV (qOp neV (qV 6) (qLst (aCons (qV 5) (aCons (qCB sortV (aCons (qLc (iSeq (qV 2)) (.nm 11) (tYes) (qCB tupleV (aCons (qCB sortV (aCons (qCB listV (aCons (qV 11) (aNil))) (aNil))) (aNil))) [11]) (aNil))) (aNil))))))) (sRet (gQ (qC (.bl false)))) (sNext)) (sSeq (sFor (giSeq (gQ (qV 1))) (.tp [(.nm 3), (.nm 4)]) (B1__law_right K A)) (sSeq (sForMv 6 (.nm 10) (B2__law_right K A)) (sRet (gQ (qOp eqV (qMeth A.c_Web "most_neighbours" [.r] (F_Web_most_neighbours K A) (qV 0) aNil) (qCB maxV (aCons (qLc (iSeq (qV 5)) (.nm 3) (tYes) (qCB lenV (aCons (qCall [.r, .r] (F__law_of K A) (aCons (qV 2) (aCons (qV 3) (aNil)))) (aNil))) [3]) (aNil)))))))))))
theorem ok__law_right (T : Txt K mg A) : VFn P w K mg base "_law_right" 4 [.r, .r, .r] (F__law_right K A) := vfn (k := 3) T.f__law_right sc__law_right rfl fun f cdv AA outer s H E hr =>
  (vss_cons (vs_set (i := 5) sc__law_right.nd rfl (Or.inl rfl) (ge_q (qe_callB (cr_sortB (hu65 hr)) v_sort T.b_sorted (by decide +kernel) (qa_cons (qe_lc (own := [("_law_name_here", 3), ("_law_strength", 4)]) (tg := (.tp [(.nm 3), (.nm 4)])) rfl sc__law_right.nd (qi_seq (qv 1)) (blkOk_by (own := [("_law_name_here", 3), ("_law_strength", 4)]) (N := ["_law_web", "_law_hands_here", "_law_ties_here", "_law_name_here", "_law_strength", "_law_names", "_law_told", "_law_near", "_law_other", "_law_found", "_law_one", "_law_tie"]) (sc := defScope s__law_right) (by decide +kernel)) (by decide) (fun _ _ _ _ _ => (pg_tup rfl (pgs_cons (pg_name (i := 3) sc__law_right.nd rfl (Or.inl rfl)) (pgs_cons (pg_name (i := 4) sc__law_right.nd rfl (Or.inl rfl)) pgs_nil)))) (fun _ _ _ _ _ => qts_nil) (fun _ _ _ _ _ => (qv 3))) qa_nil))))
    (vss_cons (vs_set (i := 6) sc__law_right.nd rfl (Or.inl rfl) (ge_lstL (gl_cons (ge_q (qe_meth0 T.c_Web (ok_Web_hands T) (hr.mono (by decide)) (takes_of rfl rfl rfl rfl) (qv 0))) (gl_cons (ge_q (qe_meth0 T.c_Web (ok_Web_ties T) (hr.mono (by decide)) (takes_of rfl rfl rfl rfl) (qv 0))) gl_nil))))
    (vss_cons (vs_if (gt_q (qt_cmp (op_neU hr.units) v_ne (qv 6) (qe_lst (qa_cons (qv 5) (qa_cons (qe_callB (cr_sortB (hu65 hr)) v_sort T.b_sorted (by decide +kernel) (qa_cons (qe_lc (own := [("_law_tie", 11)]) (tg := (.nm 11)) rfl sc__law_right.nd (qi_seq (qv 2)) (blkOk_by (own := [("_law_tie", 11)]) (N := ["_law_web", "_law_hands_here", "_law_ties_here", "_law_name_here", "_law_strength", "_law_names", "_law_told", "_law_near", "_law_other", "_law_found", "_law_one", "_law_tie"]) (sc := defScope s__law_right) (by decide +kernel)) (by decide) (fun _ _ _ _ _ => (pg_name (i := 11) sc__law_right.nd rfl (Or.inl rfl))) (fun _ _ _ _ _ => qts_nil) (fun _ _ _ _ _ => (qe_callTy call_tuple_of v_tuple T.b_tuple (by decide +kernel) (qa_cons (qe_callB (cr_sortB (hu65 hr)) v_sort T.b_sorted (by decide +kernel) (qa_cons (qe_callTy (call_listU rfl) v_list T.b_list (by decide +kernel) (qa_cons (qv 11) qa_nil)) qa_nil)) qa_nil)))) qa_nil)) qa_nil))))) (vss_one (vs_ret (ge_q qe_bl))) vss_nil)
    (vss_cons (vs_for (tg := (.tp [(.nm 3), (.nm 4)])) (passes_of rfl) rfl (gi_seq (ge_q (qv 1))) (tg_tp rfl (tgs_cons (tg_nm (i := 3) sc__law_right.nd rfl (Or.inl rfl)) (tgs_cons (tg_nm (i := 4) sc__law_right.nd rfl (Or.inl rfl)) tgs_nil))) (vss_killO (is := [7, 8, 9]) (vss_cons (vs_set (i := 7) sc__law_right.nd rfl (Or.inl rfl) (ge_q (qe_meth T.c_Web (ok_Web_neighbours T) (hr.mono (by decide)) (takes_of rfl rfl rfl rfl) (qv 0) (qa_cons (qv 3) qa_nil))))
    (vss_cons (vs_if (gt_q (PW.pt (qw_or (qt_cmp (op_neU hr.units) v_ne (qe_meth T.c_Web (ok_Web_strength T) (hr.mono (by decide)) (takes_of rfl rfl rfl rfl) (qv 0) (qa_cons (qv 3) qa_nil)) (qv 4)) (qw_or (qt_not (qt_val (qe_callB call_isi v_isi T.b_isinstance (by decide +kernel) (qa_cons (qv 7) (qa_cons (qe_ty (n := "list") T.b_list) qa_nil))))) (qw_or1 (qt_cmp (op_neU hr.units) v_ne (qv 7) (qe_call (ok__law_of T) (hr.mono (by decide)) (takes_of rfl rfl rfl rfl) (qa_cons (qv 2) (qa_cons (qv 3) qa_nil))))))))) (vss_one (vs_ret (ge_q qe_bl))) vss_nil)
    (vss_cons (vs_for (tg := (.nm 8)) (passes_of rfl) rfl (gi_seq (ge_fz (i := 5))) (tg_nm (i := 8) sc__law_right.nd rfl (Or.inl rfl)) (vss_killO (is := [8, 9]) (vss_cons (vs_set (i := 9) sc__law_right.nd rfl (Or.inl rfl) (ge_q (qe_meth T.c_Web (ok_Web_are_tied T) (hr.mono (by decide)) (takes_of rfl rfl rfl rfl) (qv 0) (qa_cons (qv 3) (qa_cons (qv 8) qa_nil)))))
    (vss_one (vs_if (gt_q (PW.pt (qw_or (qt_not (qt_val (qe_callB call_isi v_isi T.b_isinstance (by decide +kernel) (qa_cons (qv 9) (qa_cons (qe_ty (n := "bool") T.b_bool) qa_nil))))) (qw_or1 (qt_cmp (op_neU hr.units) v_ne (qv 9) (qe_cmp (op_inU (hu65 hr)) v_in (qv 8) (qv 7))))))) (vss_one (vs_ret (ge_q qe_bl))) vss_nil)))))
    (vss_one (vs_expr (ge_lm PySem.F.slot_list_append PySem.F.type_list_append mt_append rm_append 7 (gl_cons (ge_fz (i := 3)) gl_nil)))))))))
    (vss_cons (vs_forMv (i := 6) (tg := (.nm 10)) (passes_of rfl) rfl (tg_nm (i := 10) sc__law_right.nd rfl (Or.inl rfl)) (vss_killO (is := [10]) (vss_one (vs_expr (ge_lm PySem.F.slot_list_append PySem.F.type_list_append mt_append rm_append 10 (gl_cons (ge_q (qe_tup (qa_cons qe_str (qa_cons qe_str qa_nil)))) gl_nil))))))
    (vss_one (vs_ret (ge_q (qe_cmp (op_eqU hr.units) v_eq (qe_meth0 T.c_Web (ok_Web_most_neighbours T) (hr.mono (by decide)) (takes_of rfl rfl rfl rfl) (qv 0)) (qe_callB (call_maxU rfl) v_max T.b_max (by decide +kernel) (qa_cons (qe_lc (own := [("_law_name_here", 3)]) (tg := (.nm 3)) rfl sc__law_right.nd (qi_seq (qv 5)) (blkOk_by (own := [("_law_name_here", 3)]) (N := ["_law_web", "_law_hands_here", "_law_ties_here", "_law_name_here", "_law_strength", "_law_names", "_law_told", "_law_near", "_law_other", "_law_found", "_law_one", "_law_tie"]) (sc := defScope s__law_right) (by decide +kernel)) (by decide) (fun _ _ _ _ _ => (pg_name (i := 3) sc__law_right.nd rfl (Or.inl rfl))) (fun _ _ _ _ _ => qts_nil) (fun _ _ _ _ _ => (qe_callB call_lenU v_len T.b_len (by decide +kernel) (qa_cons (qe_call (ok__law_of T) (hr.mono (by decide)) takes0 (qa_cons (qv 2) (qa_cons (qv 3) qa_nil))) qa_nil)))) qa_nil)))))))))))

/- law: 0=_law_script 1=_law_kept 2=_law_cell 3=_law_state 4=_law_hands_here 5=_law_ties_here 6=_law_handed 7=_law_web -/
abbrev s_law : Stmt := (top 28)
theorem sc_law : FnScope ["_law_script", "_law_kept", "_law_cell", "_law_state", "_law_hands_here", "_law_ties_here", "_law_handed", "_law_web"] ["_law_script"] (defScope s_law) := ⟨rfl, rfl, rfl, by decide +kernel, rfl, by decide +kernel, by decide +kernel⟩
noncomputable def B0_law (K : PySem.W.Frag) (A : Adr) : FS := sKillO [2, 3, 6] (sSeq (sSet 3 (gLstL (lCons (gMove 2) (lNil)))) (sSeq (sSet 4 (gCall (F__law_hands K A) (faQ [.m 3, .q (qC (.int 8))]))) (sSeq (sSet 5 (gCall (F__law_ties K A) (faQ [.m 3, .q (qV 4)]))) (sSeq (sSet 6 (gLstL (lCons (gQ (qCB listV (aCons (qV 4) (aNil)))) (lCons (gQ (qCB listV (aCons (qV 5) (aNil)))) (lNil))))) (sSeq (sSet 7 (gMake A.c_Web (F_Web___init__ K A) (faQ [.q (qOp ixV (qV 6) (qC (.int 0))), .q (qOp ixV (qV 6) (qC (.int 1)))]))) (sSeq (sIf (gQT (tOr (tV (qOp neV (qV 6) (qLst (aCons (qV 4) (aCons (qV 5) (aNil)))))) (tNot (tV (qCall [.r, .r, .r] (F__law_right K A) (aCons (qV 7) (aCons (qV 4) (aCons (qV 5) (aNil))))))))) (sRet (gQ (qC (.bl false)))) (sNext)) (sSeq (sDrop (gLmP fClear (pIx (pNm 6) (qC (.int 0))) mqNil)) (sSeq (sDrop (gLmP fAppend (pIx (pNm 6) (qC (.int 1))) (mqCons (qTup (aCons (qOp ixV (qOp ixV (qV 4) (qC (.int 0))) (qC (.int 0))) (aCons (qC (.str "other")) (aNil)))) (mqNil)))) (sDrop (gLm fAppend 1 (lCons (gTupL (lCons (gFz 7) (lCons (gFz 4) (lCons (gFz 5) (lNil))))) (lNil))))))))))))
noncomputable def F_law (K : PySem.W.Frag) (A : Adr) : Fn := fnF 8 [.r] (sSeq (sSet 1 (gQ (qLst (aNil)))) (sSeq (sFor (giSeq (gQ (qOp addV (qLst (aCons (qC (.int 0)) (aNil))) (qSl slV (qV 0) oNone (oSome (qC (.int 8))))))) (.nm 2) (B0_law K A)) (sRet (gQ (qCB allV (aCons (qLc (iSeq (qV 1)) (.tp [(.nm 7), (.nm 4), (.nm 5)]) (tYes) (qCall [.r, .r, .r] (F__law_right K A) (aCons (qV 7) (aCons (qV 4) (aCons (qV 5) (aNil))))) [7, 4, 5]) (aNil)))))))
theorem ok_law (T : Txt K mg A) {f : Addr} {fd : FuncData} (F : Fun K "law" "law" (top 28) f fd) : FnOk P w K mg base (L2.CX P w) 7 f fd ["_law_script"] (liftF K [.r] (F_law K A)) := fn_okF (k := 6) F sc_law rfl fun cdv AA outer s H E hr =>
  (vss_cons (vs_set (i := 1) sc_law.nd rfl (Or.inl rfl) (ge_q (qe_lst qa_nil)))
    (vss_cons (vs_for (tg := (.nm 2)) (passes_of rfl) rfl (gi_seq (ge_q (qe_op (op_addU) v_add (qe_lst (qa_cons qe_int qa_nil)) (qe_slice sl_U v_sl (qv 0) qo_none (qo_some qe_int))))) (tg_nm (i := 2) sc_law.nd rfl (Or.inl rfl)) (vss_killO (is := [2, 3, 6]) (vss_cons (vs_set (i := 3) sc_law.nd rfl (Or.inl rfl) (ge_lstL (gl_cons (ge_move (i := 2)) gl_nil)))
    (vss_cons (vs_set (i := 4) sc_law.nd rfl (Or.inl rfl) (ge_call (ok__law_hands T) (hr.mono (by decide)) (takes_of rfl rfl rfl rfl) (ca_q (.m 3 (.q qe_int .nil)))))
    (vss_cons (vs_set (i := 5) sc_law.nd rfl (Or.inl rfl) (ge_call (ok__law_ties T) (hr.mono (by decide)) (takes_of rfl rfl rfl rfl) (ca_q (.m 3 (.q (qv 4) .nil)))))
    (vss_cons (vs_set (i := 6) sc_law.nd rfl (Or.inl rfl) (ge_lstL (gl_cons (ge_q (qe_callTy (call_listU rfl) v_list T.b_list (by decide +kernel) (qa_cons (qv 4) qa_nil))) (gl_cons (ge_q (qe_callTy (call_listU rfl) v_list T.b_list (by decide +kernel) (qa_cons (qv 5) qa_nil))) gl_nil))))
    (vss_cons (vs_set (i := 7) sc_law.nd rfl (Or.inl rfl) (ge_make T.mk_Web T.kp_Web T.m_Web (ok_Web___init__ T) (hr.mono (by decide)) (takes_of rfl rfl rfl rfl) (ca_q (.q (qe_ix (ix_U (hu1 hr)) v_ix (qv 6) qe_int) (.q (qe_ix (ix_U (hu1 hr)) v_ix (qv 6) qe_int) .nil)))))
    (vss_cons (vs_if (gt_q (PW.pt (qw_or (qt_cmp (op_neU hr.units) v_ne (qv 6) (qe_lst (qa_cons (qv 4) (qa_cons (qv 5) qa_nil)))) (qw_or1 (qt_not (qt_val (qe_call (ok__law_right T) (hr.mono (by decide)) (takes_of rfl rfl rfl rfl) (qa_cons (qv 7) (qa_cons (qv 4) (qa_cons (qv 5) qa_nil)))))))))) (vss_one (vs_ret (ge_q qe_bl))) vss_nil)
    (vss_cons (vs_expr (ge_lmP0 PySem.F.slot_list_clear PySem.F.type_list_clear mt_clear rm_clear (pp_ix (hu1 hr) (pp_nm 6) qe_int)))
    (vss_cons (vs_expr (ge_lmP PySem.F.slot_list_append PySem.F.type_list_append mt_append rm_append (pp_ix (hu1 hr) (pp_nm 6) qe_int) (mq_cons (qe_tup (qa_cons (qe_ix (ix_U (hu1 hr)) v_ix (qe_ix (ix_U (hu1 hr)) v_ix (qv 4) qe_int) qe_int) (qa_cons qe_str qa_nil))) mq_nil)))
    (vss_one (vs_expr (ge_lm PySem.F.slot_list_append PySem.F.type_list_append mt_append rm_append 1 (gl_cons (ge_tupL (gl_cons (ge_fz (i := 7)) (gl_cons (ge_fz (i := 4)) (gl_cons (ge_fz (i := 5)) gl_nil)))) gl_nil))))))))))))))
    (vss_one (vs_ret (ge_q (qe_callB (cr_all rfl) v_all T.b_all (by decide +kernel) (qa_cons (qe_lc (own := [("_law_web", 7), ("_law_hands_here", 4), ("_law_ties_here", 5)]) (tg := (.tp [(.nm 7), (.nm 4), (.nm 5)])) rfl sc_law.nd (qi_seq (qv 1)) (blkOk_by (own := [("_law_web", 7), ("_law_hands_here", 4), ("_law_ties_here", 5)]) (N := ["_law_script", "_law_kept", "_law_cell", "_law_state", "_law_hands_here", "_law_ties_here", "_law_handed", "_law_web"]) (sc := defScope s_law) (by decide +kernel)) (by decide) (fun _ _ _ _ _ => (pg_tup rfl (pgs_cons (pg_name (i := 7) sc_law.nd rfl (Or.inl rfl)) (pgs_cons (pg_name (i := 4) sc_law.nd rfl (Or.inl rfl)) (pgs_cons (pg_name (i := 5) sc_law.nd rfl (Or.inl rfl)) pgs_nil))))) (fun _ _ _ _ _ => qts_nil) (fun _ _ _ _ _ => (qe_call (ok__law_right T) (hr.mono (by decide)) takes0 (qa_cons (qv 7) (qa_cons (qv 4) (qa_cons (qv 5) qa_nil)))))) qa_nil)))))))

end
end LW
namespace LW
open PySem PySem.Spec PyProof.Rows L2 VL
variable {K : PySem.W.Frag} {A : Adr}
def Low (z : Str) : Prop := ∀ c ∈ z.cps.toList, c ∈ ("abcdefghijklmnopqrstuvwxyz" : Str).cps.toList
def Nm (z : Str) : Prop := 1 ≤ z.length ∧ z.length ≤ 8 ∧ Low z
theorem f_is_whole {i : Int} : F_is_whole K A [.int i] = .rt (.bl true) [none] := by
  unfold F_is_whole
  simp -implicitDefEqProofs only [bind_ok, bind_ex, bind_no, pure_ok, pure_ex, pure_no, seqE_ok, seqE_ex, seqE_no, seqS_nx, seqS_rt, seqS_ex, seqS_bk, seqS_ct, seqS_no, sNext_ap, sBreak_ap, sCont_ap, sRetN_ap, sSeq_ap, sDrop_ap, sRet_ap, sSet_ap, sIf_ap, condS_t, condS_f, sKillO_ap, killO_nx, killO_bk, killO_ct, killO_rt, killO_ex, kill_cons, kill_nil, sAsg_ap, asgK_ap, sRaise_ap, sFor_ap, forK_ap, setS_mk, setA_mk, look_mk, lookS_val, lookS_arg, qV_ap, oD_some, lc_mk, lcS_val, lcS_arg, get_s, get_a, rm_s, rm_a, put_s, put_a, view_mk, Sl.view_val, Sl.view_arg, Sl.view_no, wipe_nil, wipe_cons, qC_ap, qOp_ap, qUn_ap, qCB_ap, aNil_ap, aCons_ap, tV_ap, tNot_ap, tAnd_ap, tOr_ap, condT_y, condT_tf, condT_ft, tYes_ap, qNot_ap, qAnd_ap, qOr_ap, condQ_y, condQ_tf, condQ_ft, qIf_ap, pickQ_t, pickQ_f, qTup_ap, qLst_ap, qFld_ap, oNone_ap, oSome_ap, qSl_ap, qLc_ap, iSeq_ap, iRange_ap, qCall_ap, qMeth_ap, qM1_ap, gQ_ap, liftO_ok, liftO_ex, gQT_ap, liftT_ok, liftT_ex, gMove_mk, gFz_mk, gOp_ap, gOpK_ap, gUn_ap, gCB_ap, finG_ok, gNil_ap, gCons_ap, gConsK_ap, lNil_ap, lCons_ap, lConsK_ap, gTupL_ap, gLstL_ap, gSt_ap, gTV_ap, gNot_ap, gAnd_ap, gOr_ap, condG_y, condG_tf, condG_ft, gIf_ap, pickG_t, pickG_f, giSeq_ap, giRange_ap, ofOG_some, ofO_some, gCall_ap, gCallK_ap, afterG_rt, afterG_ex, gMake_ap, gMakeK_ap, makeG_rt, makeG_ex, gLm_ap, isLst_ap, gLmK_ap, pNm_ap, pNmK_some, fnF_ap, finF_rt, finF_nx, finF_ex, sSubL_ap, subK_ap, faQ_ap, faQK_some, startP, stS, stA, okA, takeH, evalA, exP, Ag.sl, putH, toB, toI, lenV_ap, lenN_l, lenN_t, addV_i, subV_i, mulV_i, fdivV_i, modV_i, ltV_i, leV_i, gtV_i, geV_i, negV_i, eqV_i, eqV_s, eqV_b, neV_i, neV_s, neV_b, addV_s, addV_l, addV_t, ixV_t, ixV_tk, ixV_l, ixV_s, at_0, at_1, at_2, at_3, ix_0, ix_1, ix_2, decide_true, decide_false, mkTup, mkLst, mkTupG, mkLstG, fAppend, fExtend, fInsert, fClear, fPop, fRev, mkLc, D.free, D.up, D.st, D.view, D.fz, D.mapF, D.mapFL, viewF, fzF, D.noOwn, D.noBor, D.kept, D.allF, D.allFL, ownF, borF, keepF, List.map_cons, List.map_nil, List.length_cons, List.length_nil, List.length_map, List.replicate, List.cons_append, List.nil_append, List.append_nil, List.getElem?_cons_zero, List.getElem?_cons_succ, List.getElem?_nil, List.set_cons_zero, List.set_cons_succ, List.set_nil, Option.bind_some, Option.bind_none, Option.map_some, Option.map_none, id, Nat.zero_add, Nat.reduceAdd, Nat.reduceSub, Nat.sub_self, Nat.sub_zero, if_true, if_false, Bool.false_eq_true, Bool.and_true, Bool.true_and, Bool.not_true, Bool.not_false, and_true, true_and, and_self, reduceCtorEq, ne_eq, not_false_eq_true, sz_le, sz_lt, Nat.reduceLeDiff, ints_all, strs_all, callQ_ap, callK_some, giveQ_nil, giveQ_r, giveQ_k, resQ_rt, resQ_ex, q_str, q_int, q_bl, q_non, q_tup, q_lst, q_dic, q_dit, q_obj, qChain_ap, lenN_s, listV_t, listV_l, listV_d, tupleV_l, lenN_d, ixV_d, slV_l, all_true, ints_mp, strs_mp, fldD_ap, sFldF_ap, rndK_nx, rndK_ct, rndK_bk, rndK_rt, rndK_ex, forV_cons, forV_nil, sForMv_ap, mvK_some, pFld_ap, pFldK_o, pIx_ap, pIxK_l, pIxK_t, pIxK_d, gLmP_ap, gLmPK_ok, gLmPK_ex, mqNil_ap, mqCons_ap, Function.comp_apply, Function.comp_id, Function.id_comp, neV_strs, isi_of (d := .int i) (s := "int") (t := "int") (b := true) rfl rfl, isi_of (d := .int i) (s := "int") (t := "bool") (b := false) rfl rfl]
theorem f_is_within {i lo hi : Int} : F_is_within K A [.int i, .int lo, .int hi] = .rt (.bl (decide (lo ≤ i) && decide (i ≤ hi))) [none, none, none] := by
  unfold F_is_within
  simp -implicitDefEqProofs only [bind_ok, bind_ex, bind_no, pure_ok, pure_ex, pure_no, seqE_ok, seqE_ex, seqE_no, seqS_nx, seqS_rt, seqS_ex, seqS_bk, seqS_ct, seqS_no, sNext_ap, sBreak_ap, sCont_ap, sRetN_ap, sSeq_ap, sDrop_ap, sRet_ap, sSet_ap, sIf_ap, condS_t, condS_f, sKillO_ap, killO_nx, killO_bk, killO_ct, killO_rt, killO_ex, kill_cons, kill_nil, sAsg_ap, asgK_ap, sRaise_ap, sFor_ap, forK_ap, setS_mk, setA_mk, look_mk, lookS_val, lookS_arg, qV_ap, oD_some, lc_mk, lcS_val, lcS_arg, get_s, get_a, rm_s, rm_a, put_s, put_a, view_mk, Sl.view_val, Sl.view_arg, Sl.view_no, wipe_nil, wipe_cons, qC_ap, qOp_ap, qUn_ap, qCB_ap, aNil_ap, aCons_ap, tV_ap, tNot_ap, tAnd_ap, tOr_ap, condT_y, condT_tf, condT_ft, tYes_ap, qNot_ap, qAnd_ap, qOr_ap, condQ_y, condQ_tf, condQ_ft, qIf_ap, pickQ_t, pickQ_f, qTup_ap, qLst_ap, qFld_ap, oNone_ap, oSome_ap, qSl_ap, qLc_ap, iSeq_ap, iRange_ap, qCall_ap, qMeth_ap, qM1_ap, gQ_ap, liftO_ok, liftO_ex, gQT_ap, liftT_ok, liftT_ex, gMove_mk, gFz_mk, gOp_ap, gOpK_ap, gUn_ap, gCB_ap, finG_ok, gNil_ap, gCons_ap, gConsK_ap, lNil_ap, lCons_ap, lConsK_ap, gTupL_ap, gLstL_ap, gSt_ap, gTV_ap, gNot_ap, gAnd_ap, gOr_ap, condG_y, condG_tf, condG_ft, gIf_ap, pickG_t, pickG_f, giSeq_ap, giRange_ap, ofOG_some, ofO_some, gCall_ap, gCallK_ap, afterG_rt, afterG_ex, gMake_ap, gMakeK_ap, makeG_rt, makeG_ex, gLm_ap, isLst_ap, gLmK_ap, pNm_ap, pNmK_some, fnF_ap, finF_rt, finF_nx, finF_ex, sSubL_ap, subK_ap, faQ_ap, faQK_some, startP, stS, stA, okA, takeH, evalA, exP, Ag.sl, putH, toB, toI, lenV_ap, lenN_l, lenN_t, addV_i, subV_i, mulV_i, fdivV_i, modV_i, ltV_i, leV_i, gtV_i, geV_i, negV_i, eqV_i, eqV_s, eqV_b, neV_i, neV_s, neV_b, addV_s, addV_l, addV_t, ixV_t, ixV_tk, ixV_l, ixV_s, at_0, at_1, at_2, at_3, ix_0, ix_1, ix_2, decide_true, decide_false, mkTup, mkLst, mkTupG, mkLstG, fAppend, fExtend, fInsert, fClear, fPop, fRev, mkLc, D.free, D.up, D.st, D.view, D.fz, D.mapF, D.mapFL, viewF, fzF, D.noOwn, D.noBor, D.kept, D.allF, D.allFL, ownF, borF, keepF, List.map_cons, List.map_nil, List.length_cons, List.length_nil, List.length_map, List.replicate, List.cons_append, List.nil_append, List.append_nil, List.getElem?_cons_zero, List.getElem?_cons_succ, List.getElem?_nil, List.set_cons_zero, List.set_cons_succ, List.set_nil, Option.bind_some, Option.bind_none, Option.map_some, Option.map_none, id, Nat.zero_add, Nat.reduceAdd, Nat.reduceSub, Nat.sub_self, Nat.sub_zero, if_true, if_false, Bool.false_eq_true, Bool.and_true, Bool.true_and, Bool.not_true, Bool.not_false, and_true, true_and, and_self, reduceCtorEq, ne_eq, not_false_eq_true, sz_le, sz_lt, Nat.reduceLeDiff, ints_all, strs_all, callQ_ap, callK_some, giveQ_nil, giveQ_r, giveQ_k, resQ_rt, resQ_ex, q_str, q_int, q_bl, q_non, q_tup, q_lst, q_dic, q_dit, q_obj, qChain_ap, lenN_s, listV_t, listV_l, listV_d, tupleV_l, lenN_d, ixV_d, slV_l, all_true, ints_mp, strs_mp, fldD_ap, sFldF_ap, rndK_nx, rndK_ct, rndK_bk, rndK_rt, rndK_ex, forV_cons, forV_nil, sForMv_ap, mvK_some, pFld_ap, pFldK_o, pIx_ap, pIxK_l, pIxK_t, pIxK_d, gLmP_ap, gLmPK_ok, gLmPK_ex, mqNil_ap, mqCons_ap, Function.comp_apply, Function.comp_id, Function.id_comp, neV_strs, f_is_whole]
  by_cases h : lo ≤ i
  · simp -implicitDefEqProofs only [bind_ok, bind_ex, bind_no, pure_ok, pure_ex, pure_no, seqE_ok, seqE_ex, seqE_no, seqS_nx, seqS_rt, seqS_ex, seqS_bk, seqS_ct, seqS_no, sNext_ap, sBreak_ap, sCont_ap, sRetN_ap, sSeq_ap, sDrop_ap, sRet_ap, sSet_ap, sIf_ap, condS_t, condS_f, sKillO_ap, killO_nx, killO_bk, killO_ct, killO_rt, killO_ex, kill_cons, kill_nil, sAsg_ap, asgK_ap, sRaise_ap, sFor_ap, forK_ap, setS_mk, setA_mk, look_mk, lookS_val, lookS_arg, qV_ap, oD_some, lc_mk, lcS_val, lcS_arg, get_s, get_a, rm_s, rm_a, put_s, put_a, view_mk, Sl.view_val, Sl.view_arg, Sl.view_no, wipe_nil, wipe_cons, qC_ap, qOp_ap, qUn_ap, qCB_ap, aNil_ap, aCons_ap, tV_ap, tNot_ap, tAnd_ap, tOr_ap, condT_y, condT_tf, condT_ft, tYes_ap, qNot_ap, qAnd_ap, qOr_ap, condQ_y, condQ_tf, condQ_ft, qIf_ap, pickQ_t, pickQ_f, qTup_ap, qLst_ap, qFld_ap, oNone_ap, oSome_ap, qSl_ap, qLc_ap, iSeq_ap, iRange_ap, qCall_ap, qMeth_ap, qM1_ap, gQ_ap, liftO_ok, liftO_ex, gQT_ap, liftT_ok, liftT_ex, gMove_mk, gFz_mk, gOp_ap, gOpK_ap, gUn_ap, gCB_ap, finG_ok, gNil_ap, gCons_ap, gConsK_ap, lNil_ap, lCons_ap, lConsK_ap, gTupL_ap, gLstL_ap, gSt_ap, gTV_ap, gNot_ap, gAnd_ap, gOr_ap, condG_y, condG_tf, condG_ft, gIf_ap, pickG_t, pickG_f, giSeq_ap, giRange_ap, ofOG_some, ofO_some, gCall_ap, gCallK_ap, afterG_rt, afterG_ex, gMake_ap, gMakeK_ap, makeG_rt, makeG_ex, gLm_ap, isLst_ap, gLmK_ap, pNm_ap, pNmK_some, fnF_ap, finF_rt, finF_nx, finF_ex, sSubL_ap, subK_ap, faQ_ap, faQK_some, startP, stS, stA, okA, takeH, evalA, exP, Ag.sl, putH, toB, toI, lenV_ap, lenN_l, lenN_t, addV_i, subV_i, mulV_i, fdivV_i, modV_i, ltV_i, leV_i, gtV_i, geV_i, negV_i, eqV_i, eqV_s, eqV_b, neV_i, neV_s, neV_b, addV_s, addV_l, addV_t, ixV_t, ixV_tk, ixV_l, ixV_s, at_0, at_1, at_2, at_3, ix_0, ix_1, ix_2, decide_true, decide_false, mkTup, mkLst, mkTupG, mkLstG, fAppend, fExtend, fInsert, fClear, fPop, fRev, mkLc, D.free, D.up, D.st, D.view, D.fz, D.mapF, D.mapFL, viewF, fzF, D.noOwn, D.noBor, D.kept, D.allF, D.allFL, ownF, borF, keepF, List.map_cons, List.map_nil, List.length_cons, List.length_nil, List.length_map, List.replicate, List.cons_append, List.nil_append, List.append_nil, List.getElem?_cons_zero, List.getElem?_cons_succ, List.getElem?_nil, List.set_cons_zero, List.set_cons_succ, List.set_nil, Option.bind_some, Option.bind_none, Option.map_some, Option.map_none, id, Nat.zero_add, Nat.reduceAdd, Nat.reduceSub, Nat.sub_self, Nat.sub_zero, if_true, if_false, Bool.false_eq_true, Bool.and_true, Bool.true_and, Bool.not_true, Bool.not_false, and_true, true_and, and_self, reduceCtorEq, ne_eq, not_false_eq_true, sz_le, sz_lt, Nat.reduceLeDiff, ints_all, strs_all, callQ_ap, callK_some, giveQ_nil, giveQ_r, giveQ_k, resQ_rt, resQ_ex, q_str, q_int, q_bl, q_non, q_tup, q_lst, q_dic, q_dit, q_obj, qChain_ap, lenN_s, listV_t, listV_l, listV_d, tupleV_l, lenN_d, ixV_d, slV_l, all_true, ints_mp, strs_mp, fldD_ap, sFldF_ap, rndK_nx, rndK_ct, rndK_bk, rndK_rt, rndK_ex, forV_cons, forV_nil, sForMv_ap, mvK_some, pFld_ap, pFldK_o, pIx_ap, pIxK_l, pIxK_t, pIxK_d, gLmP_ap, gLmPK_ok, gLmPK_ex, mqNil_ap, mqCons_ap, Function.comp_apply, Function.comp_id, Function.id_comp, neV_strs, decide_eq_true h]
  · simp -implicitDefEqProofs only [bind_ok, bind_ex, bind_no, pure_ok, pure_ex, pure_no, seqE_ok, seqE_ex, seqE_no, seqS_nx, seqS_rt, seqS_ex, seqS_bk, seqS_ct, seqS_no, sNext_ap, sBreak_ap, sCont_ap, sRetN_ap, sSeq_ap, sDrop_ap, sRet_ap, sSet_ap, sIf_ap, condS_t, condS_f, sKillO_ap, killO_nx, killO_bk, killO_ct, killO_rt, killO_ex, kill_cons, kill_nil, sAsg_ap, asgK_ap, sRaise_ap, sFor_ap, forK_ap, setS_mk, setA_mk, look_mk, lookS_val, lookS_arg, qV_ap, oD_some, lc_mk, lcS_val, lcS_arg, get_s, get_a, rm_s, rm_a, put_s, put_a, view_mk, Sl.view_val, Sl.view_arg, Sl.view_no, wipe_nil, wipe_cons, qC_ap, qOp_ap, qUn_ap, qCB_ap, aNil_ap, aCons_ap, tV_ap, tNot_ap, tAnd_ap, tOr_ap, condT_y, condT_tf, condT_ft, tYes_ap, qNot_ap, qAnd_ap, qOr_ap, condQ_y, condQ_tf, condQ_ft, qIf_ap, pickQ_t, pickQ_f, qTup_ap, qLst_ap, qFld_ap, oNone_ap, oSome_ap, qSl_ap, qLc_ap, iSeq_ap, iRange_ap, qCall_ap, qMeth_ap, qM1_ap, gQ_ap, liftO_ok, liftO_ex, gQT_ap, liftT_ok, liftT_ex, gMove_mk, gFz_mk, gOp_ap, gOpK_ap, gUn_ap, gCB_ap, finG_ok, gNil_ap, gCons_ap, gConsK_ap, lNil_ap, lCons_ap, lConsK_ap, gTupL_ap, gLstL_ap, gSt_ap, gTV_ap, gNot_ap, gAnd_ap, gOr_ap, condG_y, condG_tf, condG_ft, gIf_ap, pickG_t, pickG_f, giSeq_ap, giRange_ap, ofOG_some, ofO_some, gCall_ap, gCallK_ap, afterG_rt, afterG_ex, gMake_ap, gMakeK_ap, makeG_rt, makeG_ex, gLm_ap, isLst_ap, gLmK_ap, pNm_ap, pNmK_some, fnF_ap, finF_rt, finF_nx, finF_ex, sSubL_ap, subK_ap, faQ_ap, faQK_some, startP, stS, stA, okA, takeH, evalA, exP, Ag.sl, putH, toB, toI, lenV_ap, lenN_l, lenN_t, addV_i, subV_i, mulV_i, fdivV_i, modV_i, ltV_i, leV_i, gtV_i, geV_i, negV_i, eqV_i, eqV_s, eqV_b, neV_i, neV_s, neV_b, addV_s, addV_l, addV_t, ixV_t, ixV_tk, ixV_l, ixV_s, at_0, at_1, at_2, at_3, ix_0, ix_1, ix_2, decide_true, decide_false, mkTup, mkLst, mkTupG, mkLstG, fAppend, fExtend, fInsert, fClear, fPop, fRev, mkLc, D.free, D.up, D.st, D.view, D.fz, D.mapF, D.mapFL, viewF, fzF, D.noOwn, D.noBor, D.kept, D.allF, D.allFL, ownF, borF, keepF, List.map_cons, List.map_nil, List.length_cons, List.length_nil, List.length_map, List.replicate, List.cons_append, List.nil_append, List.append_nil, List.getElem?_cons_zero, List.getElem?_cons_succ, List.getElem?_nil, List.set_cons_zero, List.set_cons_succ, List.set_nil, Option.bind_some, Option.bind_none, Option.map_some, Option.map_none, id, Nat.zero_add, Nat.reduceAdd, Nat.reduceSub, Nat.sub_self, Nat.sub_zero, if_true, if_false, Bool.false_eq_true, Bool.and_true, Bool.true_and, Bool.not_true, Bool.not_false, and_true, true_and, and_self, reduceCtorEq, ne_eq, not_false_eq_true, sz_le, sz_lt, Nat.reduceLeDiff, ints_all, strs_all, callQ_ap, callK_some, giveQ_nil, giveQ_r, giveQ_k, resQ_rt, resQ_ex, q_str, q_int, q_bl, q_non, q_tup, q_lst, q_dic, q_dit, q_obj, qChain_ap, lenN_s, listV_t, listV_l, listV_d, tupleV_l, lenN_d, ixV_d, slV_l, all_true, ints_mp, strs_mp, fldD_ap, sFldF_ap, rndK_nx, rndK_ct, rndK_bk, rndK_rt, rndK_ex, forV_cons, forV_nil, sForMv_ap, mvK_some, pFld_ap, pFldK_o, pIx_ap, pIxK_l, pIxK_t, pIxK_d, gLmP_ap, gLmPK_ok, gLmPK_ex, mqNil_ap, mqCons_ap, Function.comp_apply, Function.comp_id, Function.id_comp, neV_strs, decide_eq_false h]
    simp
theorem low_all {z : Str} (h : Low z) : (z.cps.toList.map fun c => decide (c ∈ ("abcdefghijklmnopqrstuvwxyz" : Str).cps.toList)).all id = true := by
  rw [List.all_eq_true]
  intro b m
  obtain ⟨c, mc, rfl⟩ := List.mem_map.mp m
  exact decide_eq_true (h c mc)
theorem f_is_name {z : Str} (h : Nm z) : F_is_name K A [.str z] = .rt (.bl true) [none] := by
  obtain ⟨h1, h2, h3⟩ := h
  have cv : compV (.nm 1) tYes (qOp inU (qV 1) (qC k_LETTERS)) ⟨[.val (.str z), .no], [none]⟩ (signsD z) = .ok ((z.cps.toList.map fun c => decide (c ∈ ("abcdefghijklmnopqrstuvwxyz" : Str).cps.toList)).map D.bl) := by
    rw [List.map_map]
    exact compV_map _ fun c m => ⟨_, rfl, rfl, rfl, rfl, rfl⟩
  have z1 : z.length ≤ sizeLine := Nat.le_trans h2 (by decide)
  have z2 : z.cps.toList.length ≤ sizeLine := z1
  unfold F_is_name
  simp -implicitDefEqProofs only [bind_ok, bind_ex, bind_no, pure_ok, pure_ex, pure_no, seqE_ok, seqE_ex, seqE_no, seqS_nx, seqS_rt, seqS_ex, seqS_bk, seqS_ct, seqS_no, sNext_ap, sBreak_ap, sCont_ap, sRetN_ap, sSeq_ap, sDrop_ap, sRet_ap, sSet_ap, sIf_ap, condS_t, condS_f, sKillO_ap, killO_nx, killO_bk, killO_ct, killO_rt, killO_ex, kill_cons, kill_nil, sAsg_ap, asgK_ap, sRaise_ap, sFor_ap, forK_ap, setS_mk, setA_mk, look_mk, lookS_val, lookS_arg, qV_ap, oD_some, lc_mk, lcS_val, lcS_arg, get_s, get_a, rm_s, rm_a, put_s, put_a, view_mk, Sl.view_val, Sl.view_arg, Sl.view_no, wipe_nil, wipe_cons, qC_ap, qOp_ap, qUn_ap, qCB_ap, aNil_ap, aCons_ap, tV_ap, tNot_ap, tAnd_ap, tOr_ap, condT_y, condT_tf, condT_ft, tYes_ap, qNot_ap, qAnd_ap, qOr_ap, condQ_y, condQ_tf, condQ_ft, qIf_ap, pickQ_t, pickQ_f, qTup_ap, qLst_ap, qFld_ap, oNone_ap, oSome_ap, qSl_ap, qLc_ap, iSeq_ap, iRange_ap, qCall_ap, qMeth_ap, qM1_ap, gQ_ap, liftO_ok, liftO_ex, gQT_ap, liftT_ok, liftT_ex, gMove_mk, gFz_mk, gOp_ap, gOpK_ap, gUn_ap, gCB_ap, finG_ok, gNil_ap, gCons_ap, gConsK_ap, lNil_ap, lCons_ap, lConsK_ap, gTupL_ap, gLstL_ap, gSt_ap, gTV_ap, gNot_ap, gAnd_ap, gOr_ap, condG_y, condG_tf, condG_ft, gIf_ap, pickG_t, pickG_f, giSeq_ap, giRange_ap, ofOG_some, ofO_some, gCall_ap, gCallK_ap, afterG_rt, afterG_ex, gMake_ap, gMakeK_ap, makeG_rt, makeG_ex, gLm_ap, isLst_ap, gLmK_ap, pNm_ap, pNmK_some, fnF_ap, finF_rt, finF_nx, finF_ex, sSubL_ap, subK_ap, faQ_ap, faQK_some, startP, stS, stA, okA, takeH, evalA, exP, Ag.sl, putH, toB, toI, lenV_ap, lenN_l, lenN_t, addV_i, subV_i, mulV_i, fdivV_i, modV_i, ltV_i, leV_i, gtV_i, geV_i, negV_i, eqV_i, eqV_s, eqV_b, neV_i, neV_s, neV_b, addV_s, addV_l, addV_t, ixV_t, ixV_tk, ixV_l, ixV_s, at_0, at_1, at_2, at_3, ix_0, ix_1, ix_2, decide_true, decide_false, mkTup, mkLst, mkTupG, mkLstG, fAppend, fExtend, fInsert, fClear, fPop, fRev, mkLc, D.free, D.up, D.st, D.view, D.fz, D.mapF, D.mapFL, viewF, fzF, D.noOwn, D.noBor, D.kept, D.allF, D.allFL, ownF, borF, keepF, List.map_cons, List.map_nil, List.length_cons, List.length_nil, List.length_map, List.replicate, List.cons_append, List.nil_append, List.append_nil, List.getElem?_cons_zero, List.getElem?_cons_succ, List.getElem?_nil, List.set_cons_zero, List.set_cons_succ, List.set_nil, Option.bind_some, Option.bind_none, Option.map_some, Option.map_none, id, Nat.zero_add, Nat.reduceAdd, Nat.reduceSub, Nat.sub_self, Nat.sub_zero, if_true, if_false, Bool.false_eq_true, Bool.and_true, Bool.true_and, Bool.not_true, Bool.not_false, and_true, true_and, and_self, reduceCtorEq, ne_eq, not_false_eq_true, sz_le, sz_lt, Nat.reduceLeDiff, ints_all, strs_all, callQ_ap, callK_some, giveQ_nil, giveQ_r, giveQ_k, resQ_rt, resQ_ex, q_str, q_int, q_bl, q_non, q_tup, q_lst, q_dic, q_dit, q_obj, qChain_ap, lenN_s, listV_t, listV_l, listV_d, tupleV_l, lenN_d, ixV_d, slV_l, all_true, ints_mp, strs_mp, fldD_ap, sFldF_ap, rndK_nx, rndK_ct, rndK_bk, rndK_rt, rndK_ex, forV_cons, forV_nil, sForMv_ap, mvK_some, pFld_ap, pFldK_o, pIx_ap, pIxK_l, pIxK_t, pIxK_d, gLmP_ap, gLmPK_ok, gLmPK_ex, mqNil_ap, mqCons_ap, Function.comp_apply, Function.comp_id, Function.id_comp, neV_strs, isi_of (d := .str z) (s := "str") (t := "str") (b := true) rfl rfl, z1, decide_eq_true (show (1 : Int) ≤ (z.length : Int) by omega), decide_eq_true (show (z.length : Int) ≤ 8 by omega), itemsD, cv, z2, allV_bls, low_all h3]
theorem f_is_hand_row {z : Str} {s : Int} (h : Nm z) (h1 : 1 ≤ s) (h2 : s ≤ 1000) : F_is_hand_row K A [.tup [.str z, .int s]] = .rt (.bl true) [none] := by
  unfold F_is_hand_row
  simp -implicitDefEqProofs only [bind_ok, bind_ex, bind_no, pure_ok, pure_ex, pure_no, seqE_ok, seqE_ex, seqE_no, seqS_nx, seqS_rt, seqS_ex, seqS_bk, seqS_ct, seqS_no, sNext_ap, sBreak_ap, sCont_ap, sRetN_ap, sSeq_ap, sDrop_ap, sRet_ap, sSet_ap, sIf_ap, condS_t, condS_f, sKillO_ap, killO_nx, killO_bk, killO_ct, killO_rt, killO_ex, kill_cons, kill_nil, sAsg_ap, asgK_ap, sRaise_ap, sFor_ap, forK_ap, setS_mk, setA_mk, look_mk, lookS_val, lookS_arg, qV_ap, oD_some, lc_mk, lcS_val, lcS_arg, get_s, get_a, rm_s, rm_a, put_s, put_a, view_mk, Sl.view_val, Sl.view_arg, Sl.view_no, wipe_nil, wipe_cons, qC_ap, qOp_ap, qUn_ap, qCB_ap, aNil_ap, aCons_ap, tV_ap, tNot_ap, tAnd_ap, tOr_ap, condT_y, condT_tf, condT_ft, tYes_ap, qNot_ap, qAnd_ap, qOr_ap, condQ_y, condQ_tf, condQ_ft, qIf_ap, pickQ_t, pickQ_f, qTup_ap, qLst_ap, qFld_ap, oNone_ap, oSome_ap, qSl_ap, qLc_ap, iSeq_ap, iRange_ap, qCall_ap, qMeth_ap, qM1_ap, gQ_ap, liftO_ok, liftO_ex, gQT_ap, liftT_ok, liftT_ex, gMove_mk, gFz_mk, gOp_ap, gOpK_ap, gUn_ap, gCB_ap, finG_ok, gNil_ap, gCons_ap, gConsK_ap, lNil_ap, lCons_ap, lConsK_ap, gTupL_ap, gLstL_ap, gSt_ap, gTV_ap, gNot_ap, gAnd_ap, gOr_ap, condG_y, condG_tf, condG_ft, gIf_ap, pickG_t, pickG_f, giSeq_ap, giRange_ap, ofOG_some, ofO_some, gCall_ap, gCallK_ap, afterG_rt, afterG_ex, gMake_ap, gMakeK_ap, makeG_rt, makeG_ex, gLm_ap, isLst_ap, gLmK_ap, pNm_ap, pNmK_some, fnF_ap, finF_rt, finF_nx, finF_ex, sSubL_ap, subK_ap, faQ_ap, faQK_some, startP, stS, stA, okA, takeH, evalA, exP, Ag.sl, putH, toB, toI, lenV_ap, lenN_l, lenN_t, addV_i, subV_i, mulV_i, fdivV_i, modV_i, ltV_i, leV_i, gtV_i, geV_i, negV_i, eqV_i, eqV_s, eqV_b, neV_i, neV_s, neV_b, addV_s, addV_l, addV_t, ixV_t, ixV_tk, ixV_l, ixV_s, at_0, at_1, at_2, at_3, ix_0, ix_1, ix_2, decide_true, decide_false, mkTup, mkLst, mkTupG, mkLstG, fAppend, fExtend, fInsert, fClear, fPop, fRev, mkLc, D.free, D.up, D.st, D.view, D.fz, D.mapF, D.mapFL, viewF, fzF, D.noOwn, D.noBor, D.kept, D.allF, D.allFL, ownF, borF, keepF, List.map_cons, List.map_nil, List.length_cons, List.length_nil, List.length_map, List.replicate, List.cons_append, List.nil_append, List.append_nil, List.getElem?_cons_zero, List.getElem?_cons_succ, List.getElem?_nil, List.set_cons_zero, List.set_cons_succ, List.set_nil, Option.bind_some, Option.bind_none, Option.map_some, Option.map_none, id, Nat.zero_add, Nat.reduceAdd, Nat.reduceSub, Nat.sub_self, Nat.sub_zero, if_true, if_false, Bool.false_eq_true, Bool.and_true, Bool.true_and, Bool.not_true, Bool.not_false, and_true, true_and, and_self, reduceCtorEq, ne_eq, not_false_eq_true, sz_le, sz_lt, Nat.reduceLeDiff, ints_all, strs_all, callQ_ap, callK_some, giveQ_nil, giveQ_r, giveQ_k, resQ_rt, resQ_ex, q_str, q_int, q_bl, q_non, q_tup, q_lst, q_dic, q_dit, q_obj, qChain_ap, lenN_s, listV_t, listV_l, listV_d, tupleV_l, lenN_d, ixV_d, slV_l, all_true, ints_mp, strs_mp, fldD_ap, sFldF_ap, rndK_nx, rndK_ct, rndK_bk, rndK_rt, rndK_ex, forV_cons, forV_nil, sForMv_ap, mvK_some, pFld_ap, pFldK_o, pIx_ap, pIxK_l, pIxK_t, pIxK_d, gLmP_ap, gLmPK_ok, gLmPK_ex, mqNil_ap, mqCons_ap, Function.comp_apply, Function.comp_id, Function.id_comp, neV_strs, isi_of (d := .tup [.str z, .int s]) (s := "tuple") (t := "tuple") (b := true) rfl rfl, show decide (((2 : Nat) : Int) = 2) = true from rfl, f_is_name h, f_is_within, decide_eq_true h1, decide_eq_true h2]
theorem f_is_pair {x y : Str} (h : Nm x) (h1 : Nm y) : F_is_pair K A [.tup [.str x, .str y]] = .rt (.bl (!decide (x = y))) [none] := by
  unfold F_is_pair
  simp -implicitDefEqProofs only [bind_ok, bind_ex, bind_no, pure_ok, pure_ex, pure_no, seqE_ok, seqE_ex, seqE_no, seqS_nx, seqS_rt, seqS_ex, seqS_bk, seqS_ct, seqS_no, sNext_ap, sBreak_ap, sCont_ap, sRetN_ap, sSeq_ap, sDrop_ap, sRet_ap, sSet_ap, sIf_ap, condS_t, condS_f, sKillO_ap, killO_nx, killO_bk, killO_ct, killO_rt, killO_ex, kill_cons, kill_nil, sAsg_ap, asgK_ap, sRaise_ap, sFor_ap, forK_ap, setS_mk, setA_mk, look_mk, lookS_val, lookS_arg, qV_ap, oD_some, lc_mk, lcS_val, lcS_arg, get_s, get_a, rm_s, rm_a, put_s, put_a, view_mk, Sl.view_val, Sl.view_arg, Sl.view_no, wipe_nil, wipe_cons, qC_ap, qOp_ap, qUn_ap, qCB_ap, aNil_ap, aCons_ap, tV_ap, tNot_ap, tAnd_ap, tOr_ap, condT_y, condT_tf, condT_ft, tYes_ap, qNot_ap, qAnd_ap, qOr_ap, condQ_y, condQ_tf, condQ_ft, qIf_ap, pickQ_t, pickQ_f, qTup_ap, qLst_ap, qFld_ap, oNone_ap, oSome_ap, qSl_ap, qLc_ap, iSeq_ap, iRange_ap, qCall_ap, qMeth_ap, qM1_ap, gQ_ap, liftO_ok, liftO_ex, gQT_ap, liftT_ok, liftT_ex, gMove_mk, gFz_mk, gOp_ap, gOpK_ap, gUn_ap, gCB_ap, finG_ok, gNil_ap, gCons_ap, gConsK_ap, lNil_ap, lCons_ap, lConsK_ap, gTupL_ap, gLstL_ap, gSt_ap, gTV_ap, gNot_ap, gAnd_ap, gOr_ap, condG_y, condG_tf, condG_ft, gIf_ap, pickG_t, pickG_f, giSeq_ap, giRange_ap, ofOG_some, ofO_some, gCall_ap, gCallK_ap, afterG_rt, afterG_ex, gMake_ap, gMakeK_ap, makeG_rt, makeG_ex, gLm_ap, isLst_ap, gLmK_ap, pNm_ap, pNmK_some, fnF_ap, finF_rt, finF_nx, finF_ex, sSubL_ap, subK_ap, faQ_ap, faQK_some, startP, stS, stA, okA, takeH, evalA, exP, Ag.sl, putH, toB, toI, lenV_ap, lenN_l, lenN_t, addV_i, subV_i, mulV_i, fdivV_i, modV_i, ltV_i, leV_i, gtV_i, geV_i, negV_i, eqV_i, eqV_s, eqV_b, neV_i, neV_s, neV_b, addV_s, addV_l, addV_t, ixV_t, ixV_tk, ixV_l, ixV_s, at_0, at_1, at_2, at_3, ix_0, ix_1, ix_2, decide_true, decide_false, mkTup, mkLst, mkTupG, mkLstG, fAppend, fExtend, fInsert, fClear, fPop, fRev, mkLc, D.free, D.up, D.st, D.view, D.fz, D.mapF, D.mapFL, viewF, fzF, D.noOwn, D.noBor, D.kept, D.allF, D.allFL, ownF, borF, keepF, List.map_cons, List.map_nil, List.length_cons, List.length_nil, List.length_map, List.replicate, List.cons_append, List.nil_append, List.append_nil, List.getElem?_cons_zero, List.getElem?_cons_succ, List.getElem?_nil, List.set_cons_zero, List.set_cons_succ, List.set_nil, Option.bind_some, Option.bind_none, Option.map_some, Option.map_none, id, Nat.zero_add, Nat.reduceAdd, Nat.reduceSub, Nat.sub_self, Nat.sub_zero, if_true, if_false, Bool.false_eq_true, Bool.and_true, Bool.true_and, Bool.not_true, Bool.not_false, and_true, true_and, and_self, reduceCtorEq, ne_eq, not_false_eq_true, sz_le, sz_lt, Nat.reduceLeDiff, ints_all, strs_all, callQ_ap, callK_some, giveQ_nil, giveQ_r, giveQ_k, resQ_rt, resQ_ex, q_str, q_int, q_bl, q_non, q_tup, q_lst, q_dic, q_dit, q_obj, qChain_ap, lenN_s, listV_t, listV_l, listV_d, tupleV_l, lenN_d, ixV_d, slV_l, all_true, ints_mp, strs_mp, fldD_ap, sFldF_ap, rndK_nx, rndK_ct, rndK_bk, rndK_rt, rndK_ex, forV_cons, forV_nil, sForMv_ap, mvK_some, pFld_ap, pFldK_o, pIx_ap, pIxK_l, pIxK_t, pIxK_d, gLmP_ap, gLmPK_ok, gLmPK_ex, mqNil_ap, mqCons_ap, Function.comp_apply, Function.comp_id, Function.id_comp, neV_strs, isi_of (d := .tup [.str x, .str y]) (s := "tuple") (t := "tuple") (b := true) rfl rfl, show decide (((2 : Nat) : Int) = 2) = true from rfl, f_is_name h, f_is_name h1]
theorem f_sure : F_sure K A [.bl true] = .rt .non [none] := by
  unfold F_sure
  simp -implicitDefEqProofs only [bind_ok, bind_ex, bind_no, pure_ok, pure_ex, pure_no, seqE_ok, seqE_ex, seqE_no, seqS_nx, seqS_rt, seqS_ex, seqS_bk, seqS_ct, seqS_no, sNext_ap, sBreak_ap, sCont_ap, sRetN_ap, sSeq_ap, sDrop_ap, sRet_ap, sSet_ap, sIf_ap, condS_t, condS_f, sKillO_ap, killO_nx, killO_bk, killO_ct, killO_rt, killO_ex, kill_cons, kill_nil, sAsg_ap, asgK_ap, sRaise_ap, sFor_ap, forK_ap, setS_mk, setA_mk, look_mk, lookS_val, lookS_arg, qV_ap, oD_some, lc_mk, lcS_val, lcS_arg, get_s, get_a, rm_s, rm_a, put_s, put_a, view_mk, Sl.view_val, Sl.view_arg, Sl.view_no, wipe_nil, wipe_cons, qC_ap, qOp_ap, qUn_ap, qCB_ap, aNil_ap, aCons_ap, tV_ap, tNot_ap, tAnd_ap, tOr_ap, condT_y, condT_tf, condT_ft, tYes_ap, qNot_ap, qAnd_ap, qOr_ap, condQ_y, condQ_tf, condQ_ft, qIf_ap, pickQ_t, pickQ_f, qTup_ap, qLst_ap, qFld_ap, oNone_ap, oSome_ap, qSl_ap, qLc_ap, iSeq_ap, iRange_ap, qCall_ap, qMeth_ap, qM1_ap, gQ_ap, liftO_ok, liftO_ex, gQT_ap, liftT_ok, liftT_ex, gMove_mk, gFz_mk, gOp_ap, gOpK_ap, gUn_ap, gCB_ap, finG_ok, gNil_ap, gCons_ap, gConsK_ap, lNil_ap, lCons_ap, lConsK_ap, gTupL_ap, gLstL_ap, gSt_ap, gTV_ap, gNot_ap, gAnd_ap, gOr_ap, condG_y, condG_tf, condG_ft, gIf_ap, pickG_t, pickG_f, giSeq_ap, giRange_ap, ofOG_some, ofO_some, gCall_ap, gCallK_ap, afterG_rt, afterG_ex, gMake_ap, gMakeK_ap, makeG_rt, makeG_ex, gLm_ap, isLst_ap, gLmK_ap, pNm_ap, pNmK_some, fnF_ap, finF_rt, finF_nx, finF_ex, sSubL_ap, subK_ap, faQ_ap, faQK_some, startP, stS, stA, okA, takeH, evalA, exP, Ag.sl, putH, toB, toI, lenV_ap, lenN_l, lenN_t, addV_i, subV_i, mulV_i, fdivV_i, modV_i, ltV_i, leV_i, gtV_i, geV_i, negV_i, eqV_i, eqV_s, eqV_b, neV_i, neV_s, neV_b, addV_s, addV_l, addV_t, ixV_t, ixV_tk, ixV_l, ixV_s, at_0, at_1, at_2, at_3, ix_0, ix_1, ix_2, decide_true, decide_false, mkTup, mkLst, mkTupG, mkLstG, fAppend, fExtend, fInsert, fClear, fPop, fRev, mkLc, D.free, D.up, D.st, D.view, D.fz, D.mapF, D.mapFL, viewF, fzF, D.noOwn, D.noBor, D.kept, D.allF, D.allFL, ownF, borF, keepF, List.map_cons, List.map_nil, List.length_cons, List.length_nil, List.length_map, List.replicate, List.cons_append, List.nil_append, List.append_nil, List.getElem?_cons_zero, List.getElem?_cons_succ, List.getElem?_nil, List.set_cons_zero, List.set_cons_succ, List.set_nil, Option.bind_some, Option.bind_none, Option.map_some, Option.map_none, id, Nat.zero_add, Nat.reduceAdd, Nat.reduceSub, Nat.sub_self, Nat.sub_zero, if_true, if_false, Bool.false_eq_true, Bool.and_true, Bool.true_and, Bool.not_true, Bool.not_false, and_true, true_and, and_self, reduceCtorEq, ne_eq, not_false_eq_true, sz_le, sz_lt, Nat.reduceLeDiff, ints_all, strs_all, callQ_ap, callK_some, giveQ_nil, giveQ_r, giveQ_k, resQ_rt, resQ_ex, q_str, q_int, q_bl, q_non, q_tup, q_lst, q_dic, q_dit, q_obj, qChain_ap, lenN_s, listV_t, listV_l, listV_d, tupleV_l, lenN_d, ixV_d, slV_l, all_true, ints_mp, strs_mp, fldD_ap, sFldF_ap, rndK_nx, rndK_ct, rndK_bk, rndK_rt, rndK_ex, forV_cons, forV_nil, sForMv_ap, mvK_some, pFld_ap, pFldK_o, pIx_ap, pIxK_l, pIxK_t, pIxK_d, gLmP_ap, gLmPK_ok, gLmPK_ex, mqNil_ap, mqCons_ap, Function.comp_apply, Function.comp_id, Function.id_comp, neV_strs]
theorem nm_ok {z : Str} (h : Nm z) : PyData.strOk z = true := by
  unfold PyData.strOk
  rw [← Array.all_toList, List.all_eq_true]
  exact fun c hc => decide_eq_true ((show ∀ c ∈ ("abcdefghijklmnopqrstuvwxyz" : Str).cps.toList, c < 1114112 by decide +kernel) c (h.2.2 c hc))
theorem f_sorted_pair {x y : Str} (h : PyData.strOk x = true) (h1 : PyData.strOk y = true) : F_sorted_pair K A [.tup [.str x, .str y]] = .rt (tupS (sortS [x, y])) [none] := by
  have e := sortV_strs (f := .new) (xs := [x, y]) (by simp [h, h1])
  simp only [List.map_cons, List.map_nil] at e
  unfold F_sorted_pair
  simp -implicitDefEqProofs only [bind_ok, bind_ex, bind_no, pure_ok, pure_ex, pure_no, seqE_ok, seqE_ex, seqE_no, seqS_nx, seqS_rt, seqS_ex, seqS_bk, seqS_ct, seqS_no, sNext_ap, sBreak_ap, sCont_ap, sRetN_ap, sSeq_ap, sDrop_ap, sRet_ap, sSet_ap, sIf_ap, condS_t, condS_f, sKillO_ap, killO_nx, killO_bk, killO_ct, killO_rt, killO_ex, kill_cons, kill_nil, sAsg_ap, asgK_ap, sRaise_ap, sFor_ap, forK_ap, setS_mk, setA_mk, look_mk, lookS_val, lookS_arg, qV_ap, oD_some, lc_mk, lcS_val, lcS_arg, get_s, get_a, rm_s, rm_a, put_s, put_a, view_mk, Sl.view_val, Sl.view_arg, Sl.view_no, wipe_nil, wipe_cons, qC_ap, qOp_ap, qUn_ap, qCB_ap, aNil_ap, aCons_ap, tV_ap, tNot_ap, tAnd_ap, tOr_ap, condT_y, condT_tf, condT_ft, tYes_ap, qNot_ap, qAnd_ap, qOr_ap, condQ_y, condQ_tf, condQ_ft, qIf_ap, pickQ_t, pickQ_f, qTup_ap, qLst_ap, qFld_ap, oNone_ap, oSome_ap, qSl_ap, qLc_ap, iSeq_ap, iRange_ap, qCall_ap, qMeth_ap, qM1_ap, gQ_ap, liftO_ok, liftO_ex, gQT_ap, liftT_ok, liftT_ex, gMove_mk, gFz_mk, gOp_ap, gOpK_ap, gUn_ap, gCB_ap, finG_ok, gNil_ap, gCons_ap, gConsK_ap, lNil_ap, lCons_ap, lConsK_ap, gTupL_ap, gLstL_ap, gSt_ap, gTV_ap, gNot_ap, gAnd_ap, gOr_ap, condG_y, condG_tf, condG_ft, gIf_ap, pickG_t, pickG_f, giSeq_ap, giRange_ap, ofOG_some, ofO_some, gCall_ap, gCallK_ap, afterG_rt, afterG_ex, gMake_ap, gMakeK_ap, makeG_rt, makeG_ex, gLm_ap, isLst_ap, gLmK_ap, pNm_ap, pNmK_some, fnF_ap, finF_rt, finF_nx, finF_ex, sSubL_ap, subK_ap, faQ_ap, faQK_some, startP, stS, stA, okA, takeH, evalA, exP, Ag.sl, putH, toB, toI, lenV_ap, lenN_l, lenN_t, addV_i, subV_i, mulV_i, fdivV_i, modV_i, ltV_i, leV_i, gtV_i, geV_i, negV_i, eqV_i, eqV_s, eqV_b, neV_i, neV_s, neV_b, addV_s, addV_l, addV_t, ixV_t, ixV_tk, ixV_l, ixV_s, at_0, at_1, at_2, at_3, ix_0, ix_1, ix_2, decide_true, decide_false, mkTup, mkLst, mkTupG, mkLstG, fAppend, fExtend, fInsert, fClear, fPop, fRev, mkLc, D.free, D.up, D.st, D.view, D.fz, D.mapF, D.mapFL, viewF, fzF, D.noOwn, D.noBor, D.kept, D.allF, D.allFL, ownF, borF, keepF, List.map_cons, List.map_nil, List.length_cons, List.length_nil, List.length_map, List.replicate, List.cons_append, List.nil_append, List.append_nil, List.getElem?_cons_zero, List.getElem?_cons_succ, List.getElem?_nil, List.set_cons_zero, List.set_cons_succ, List.set_nil, Option.bind_some, Option.bind_none, Option.map_some, Option.map_none, id, Nat.zero_add, Nat.reduceAdd, Nat.reduceSub, Nat.sub_self, Nat.sub_zero, if_true, if_false, Bool.false_eq_true, Bool.and_true, Bool.true_and, Bool.not_true, Bool.not_false, and_true, true_and, and_self, reduceCtorEq, ne_eq, not_false_eq_true, sz_le, sz_lt, Nat.reduceLeDiff, ints_all, strs_all, callQ_ap, callK_some, giveQ_nil, giveQ_r, giveQ_k, resQ_rt, resQ_ex, q_str, q_int, q_bl, q_non, q_tup, q_lst, q_dic, q_dit, q_obj, qChain_ap, lenN_s, listV_t, listV_l, listV_d, tupleV_l, lenN_d, ixV_d, slV_l, all_true, ints_mp, strs_mp, fldD_ap, sFldF_ap, rndK_nx, rndK_ct, rndK_bk, rndK_rt, rndK_ex, forV_cons, forV_nil, sForMv_ap, mvK_some, pFld_ap, pFldK_o, pIx_ap, pIxK_l, pIxK_t, pIxK_d, gLmP_ap, gLmPK_ok, gLmPK_ex, mqNil_ap, mqCons_ap, Function.comp_apply, Function.comp_id, Function.id_comp, neV_strs, listV_t, e, tupleV_l, tupS]
/-- a web's hands as its dict -/
abbrev eS (hs : List (Str × Int)) : List (Kd × D) := hs.map fun e => (kS e.1, .int e.2)
theorem pairsD_hs : ∀ hs : List (Str × Int), pairsD (hs.map fun e => D.tup [.str e.1, .int e.2]) = some (eS hs)
  | [] => rfl
  | e :: hs => by simp only [List.map_cons, pairsD, keyK, pairsD_hs hs]
theorem merge_hs : ∀ (hs acc : List (Str × Int)), ((acc ++ hs).map (·.1)).Nodup → mergeD (eS acc) (eS hs) = eS (acc ++ hs)
  | [], acc, _ => by simp [mergeD]
  | e :: hs, acc, h => by
    have hn : ((eS acc).any fun z => decide (z.1 = kS e.1)) = false := by
      rw [List.any_eq_false]
      intro z m
      obtain ⟨e', m', rfl⟩ := List.mem_map.mp m
      simp only [decide_eq_true_eq]
      intro q
      have q2 : e'.1 = e.1 := by simpa using q
      rw [List.map_append, List.nodup_append] at h
      exact h.2.2 e'.1 (List.mem_map_of_mem m') e.1 (by simp) q2
    have p : putD (eS acc) (kS e.1) (.int e.2) = eS (acc ++ [e]) := by
      unfold putD
      rw [if_neg (by rw [hn]; simp)]
      simp
    have ih := merge_hs hs (acc ++ [e]) (by simpa using h)
    show mergeD (putD (eS acc) (kS e.1) (.int e.2)) (eS hs) = _
    rw [p, ih]
    simp
theorem dictV_hs {f : Fl} {hs : List (Str × Int)} (h : (hs.map (·.1)).Nodup) : dictV [.lst f (hs.map fun e => D.tup [.str e.1, .int e.2])] = .ok (.dic .new (eS hs)) := by
  unfold dictV
  simp only [pairsD_hs, Option.map_some, ofO_some]
  have := merge_hs hs [] (by simpa using h)
  simp only [List.map_nil, List.nil_append] at this
  rw [this]
abbrev eP (e : Str × Int) : D := .tup [.str e.1, .int e.2]
abbrev eH (f : Fl) (hs : List (Str × Int)) : D := .lst f (hs.map eP)
structure HOk (hs : List (Str × Int)) : Prop where
  nd : (hs.map (·.1)).Nodup
  nm : ∀ e ∈ hs, Nm e.1 ∧ 1 ≤ e.2 ∧ e.2 ≤ 1000
theorem eS_all {p : Fl → Bool} : ∀ {hs : List (Str × Int)}, D.allFK p (eS hs) = true
  | [] => rfl
  | e :: hs => by show (true && D.allFK p (eS hs)) = true; rw [eS_all]; rfl
theorem eS_map {g : Fl → Fl} : ∀ {hs : List (Str × Int)}, D.mapFK g (eS hs) = eS hs
  | [] => rfl
  | e :: hs => by show (kS e.1, D.int e.2) :: D.mapFK g (eS hs) = _; rw [eS_map]; rfl
theorem ePs_all {p : Fl → Bool} {hs : List (Str × Int)} : D.allFL p (hs.map eP) = true := allFL_map fun x => rfl
theorem ePs_map {g : Fl → Fl} {hs : List (Str × Int)} : D.mapFL g (hs.map eP) = hs.map eP := mapFL_plain ePs_all
theorem f_strengths_of {hs : List (Str × Int)} (h : HOk hs) (h1 : 1 ≤ hs.length) (h8 : hs.length ≤ 8) : F_strengths_of K A [eH .bor hs] = .rt (.dic .own (eS hs)) [none] := by
  have cv : compV (.nm 2) tYes (qCall [.r] (F_is_hand_row K A) (aCons (qV 2) aNil)) ⟨[.val (eH .bor hs), .no, .no], [none]⟩ (hs.map eP) = .ok ((hs.map fun _ => true).map D.bl) := by
    rw [List.map_map]
    refine compV_map hs fun e m => ⟨_, put_nm, rfl, ?_, rfl, rfl⟩
    obtain ⟨n1, n2, n3⟩ := h.nm e m
    simp -implicitDefEqProofs only [bind_ok, bind_ex, bind_no, pure_ok, pure_ex, pure_no, seqE_ok, seqE_ex, seqE_no, seqS_nx, seqS_rt, seqS_ex, seqS_bk, seqS_ct, seqS_no, sNext_ap, sBreak_ap, sCont_ap, sRetN_ap, sSeq_ap, sDrop_ap, sRet_ap, sSet_ap, sIf_ap, condS_t, condS_f, sKillO_ap, killO_nx, killO_bk, killO_ct, killO_rt, killO_ex, kill_cons, kill_nil, sAsg_ap, asgK_ap, sRaise_ap, sFor_ap, forK_ap, setS_mk, setA_mk, look_mk, lookS_val, lookS_arg, qV_ap, oD_some, lc_mk, lcS_val, lcS_arg, get_s, get_a, rm_s, rm_a, put_s, put_a, view_mk, Sl.view_val, Sl.view_arg, Sl.view_no, wipe_nil, wipe_cons, qC_ap, qOp_ap, qUn_ap, qCB_ap, aNil_ap, aCons_ap, tV_ap, tNot_ap, tAnd_ap, tOr_ap, condT_y, condT_tf, condT_ft, tYes_ap, qNot_ap, qAnd_ap, qOr_ap, condQ_y, condQ_tf, condQ_ft, qIf_ap, pickQ_t, pickQ_f, qTup_ap, qLst_ap, qFld_ap, oNone_ap, oSome_ap, qSl_ap, qLc_ap, iSeq_ap, iRange_ap, qCall_ap, qMeth_ap, qM1_ap, gQ_ap, liftO_ok, liftO_ex, gQT_ap, liftT_ok, liftT_ex, gMove_mk, gFz_mk, gOp_ap, gOpK_ap, gUn_ap, gCB_ap, finG_ok, gNil_ap, gCons_ap, gConsK_ap, lNil_ap, lCons_ap, lConsK_ap, gTupL_ap, gLstL_ap, gSt_ap, gTV_ap, gNot_ap, gAnd_ap, gOr_ap, condG_y, condG_tf, condG_ft, gIf_ap, pickG_t, pickG_f, giSeq_ap, giRange_ap, ofOG_some, ofO_some, gCall_ap, gCallK_ap, afterG_rt, afterG_ex, gMake_ap, gMakeK_ap, makeG_rt, makeG_ex, gLm_ap, isLst_ap, gLmK_ap, pNm_ap, pNmK_some, fnF_ap, finF_rt, finF_nx, finF_ex, sSubL_ap, subK_ap, faQ_ap, faQK_some, startP, stS, stA, okA, takeH, evalA, exP, Ag.sl, putH, toB, toI, lenV_ap, lenN_l, lenN_t, addV_i, subV_i, mulV_i, fdivV_i, modV_i, ltV_i, leV_i, gtV_i, geV_i, negV_i, eqV_i, eqV_s, eqV_b, neV_i, neV_s, neV_b, addV_s, addV_l, addV_t, ixV_t, ixV_tk, ixV_l, ixV_s, at_0, at_1, at_2, at_3, ix_0, ix_1, ix_2, decide_true, decide_false, mkTup, mkLst, mkTupG, mkLstG, fAppend, fExtend, fInsert, fClear, fPop, fRev, mkLc, D.free, D.up, D.st, D.view, D.fz, D.mapF, D.mapFL, viewF, fzF, D.noOwn, D.noBor, D.kept, D.allF, D.allFL, ownF, borF, keepF, List.map_cons, List.map_nil, List.length_cons, List.length_nil, List.length_map, List.replicate, List.cons_append, List.nil_append, List.append_nil, List.getElem?_cons_zero, List.getElem?_cons_succ, List.getElem?_nil, List.set_cons_zero, List.set_cons_succ, List.set_nil, Option.bind_some, Option.bind_none, Option.map_some, Option.map_none, id, Nat.zero_add, Nat.reduceAdd, Nat.reduceSub, Nat.sub_self, Nat.sub_zero, if_true, if_false, Bool.false_eq_true, Bool.and_true, Bool.true_and, Bool.not_true, Bool.not_false, and_true, true_and, and_self, reduceCtorEq, ne_eq, not_false_eq_true, sz_le, sz_lt, Nat.reduceLeDiff, ints_all, strs_all, callQ_ap, callK_some, giveQ_nil, giveQ_r, giveQ_k, resQ_rt, resQ_ex, q_str, q_int, q_bl, q_non, q_tup, q_lst, q_dic, q_dit, q_obj, qChain_ap, lenN_s, listV_t, listV_l, listV_d, tupleV_l, lenN_d, ixV_d, slV_l, all_true, ints_mp, strs_mp, fldD_ap, sFldF_ap, rndK_nx, rndK_ct, rndK_bk, rndK_rt, rndK_ex, forV_cons, forV_nil, sForMv_ap, mvK_some, pFld_ap, pFldK_o, pIx_ap, pIxK_l, pIxK_t, pIxK_d, gLmP_ap, gLmPK_ok, gLmPK_ex, mqNil_ap, mqCons_ap, Function.comp_apply, Function.comp_id, Function.id_comp, neV_strs, f_is_hand_row n1 n2 n3]
  have z1 : hs.length ≤ sizeLine := Nat.le_trans h8 (by decide)
  unfold F_strengths_of
  simp -implicitDefEqProofs only [bind_ok, bind_ex, bind_no, pure_ok, pure_ex, pure_no, seqE_ok, seqE_ex, seqE_no, seqS_nx, seqS_rt, seqS_ex, seqS_bk, seqS_ct, seqS_no, sNext_ap, sBreak_ap, sCont_ap, sRetN_ap, sSeq_ap, sDrop_ap, sRet_ap, sSet_ap, sIf_ap, condS_t, condS_f, sKillO_ap, killO_nx, killO_bk, killO_ct, killO_rt, killO_ex, kill_cons, kill_nil, sAsg_ap, asgK_ap, sRaise_ap, sFor_ap, forK_ap, setS_mk, setA_mk, look_mk, lookS_val, lookS_arg, qV_ap, oD_some, lc_mk, lcS_val, lcS_arg, get_s, get_a, rm_s, rm_a, put_s, put_a, view_mk, Sl.view_val, Sl.view_arg, Sl.view_no, wipe_nil, wipe_cons, qC_ap, qOp_ap, qUn_ap, qCB_ap, aNil_ap, aCons_ap, tV_ap, tNot_ap, tAnd_ap, tOr_ap, condT_y, condT_tf, condT_ft, tYes_ap, qNot_ap, qAnd_ap, qOr_ap, condQ_y, condQ_tf, condQ_ft, qIf_ap, pickQ_t, pickQ_f, qTup_ap, qLst_ap, qFld_ap, oNone_ap, oSome_ap, qSl_ap, qLc_ap, iSeq_ap, iRange_ap, qCall_ap, qMeth_ap, qM1_ap, gQ_ap, liftO_ok, liftO_ex, gQT_ap, liftT_ok, liftT_ex, gMove_mk, gFz_mk, gOp_ap, gOpK_ap, gUn_ap, gCB_ap, finG_ok, gNil_ap, gCons_ap, gConsK_ap, lNil_ap, lCons_ap, lConsK_ap, gTupL_ap, gLstL_ap, gSt_ap, gTV_ap, gNot_ap, gAnd_ap, gOr_ap, condG_y, condG_tf, condG_ft, gIf_ap, pickG_t, pickG_f, giSeq_ap, giRange_ap, ofOG_some, ofO_some, gCall_ap, gCallK_ap, afterG_rt, afterG_ex, gMake_ap, gMakeK_ap, makeG_rt, makeG_ex, gLm_ap, isLst_ap, gLmK_ap, pNm_ap, pNmK_some, fnF_ap, finF_rt, finF_nx, finF_ex, sSubL_ap, subK_ap, faQ_ap, faQK_some, startP, stS, stA, okA, takeH, evalA, exP, Ag.sl, putH, toB, toI, lenV_ap, lenN_l, lenN_t, addV_i, subV_i, mulV_i, fdivV_i, modV_i, ltV_i, leV_i, gtV_i, geV_i, negV_i, eqV_i, eqV_s, eqV_b, neV_i, neV_s, neV_b, addV_s, addV_l, addV_t, ixV_t, ixV_tk, ixV_l, ixV_s, at_0, at_1, at_2, at_3, ix_0, ix_1, ix_2, decide_true, decide_false, mkTup, mkLst, mkTupG, mkLstG, fAppend, fExtend, fInsert, fClear, fPop, fRev, mkLc, D.free, D.up, D.st, D.view, D.fz, D.mapF, D.mapFL, viewF, fzF, D.noOwn, D.noBor, D.kept, D.allF, D.allFL, ownF, borF, keepF, List.map_cons, List.map_nil, List.length_cons, List.length_nil, List.length_map, List.replicate, List.cons_append, List.nil_append, List.append_nil, List.getElem?_cons_zero, List.getElem?_cons_succ, List.getElem?_nil, List.set_cons_zero, List.set_cons_succ, List.set_nil, Option.bind_some, Option.bind_none, Option.map_some, Option.map_none, id, Nat.zero_add, Nat.reduceAdd, Nat.reduceSub, Nat.sub_self, Nat.sub_zero, if_true, if_false, Bool.false_eq_true, Bool.and_true, Bool.true_and, Bool.not_true, Bool.not_false, and_true, true_and, and_self, reduceCtorEq, ne_eq, not_false_eq_true, sz_le, sz_lt, Nat.reduceLeDiff, ints_all, strs_all, callQ_ap, callK_some, giveQ_nil, giveQ_r, giveQ_k, resQ_rt, resQ_ex, q_str, q_int, q_bl, q_non, q_tup, q_lst, q_dic, q_dit, q_obj, qChain_ap, lenN_s, listV_t, listV_l, listV_d, tupleV_l, lenN_d, ixV_d, slV_l, all_true, ints_mp, strs_mp, fldD_ap, sFldF_ap, rndK_nx, rndK_ct, rndK_bk, rndK_rt, rndK_ex, forV_cons, forV_nil, sForMv_ap, mvK_some, pFld_ap, pFldK_o, pIx_ap, pIxK_l, pIxK_t, pIxK_d, gLmP_ap, gLmPK_ok, gLmPK_ex, mqNil_ap, mqCons_ap, Function.comp_apply, Function.comp_id, Function.id_comp, neV_strs, isi_of (d := eH .bor hs) (s := "list") (t := "list") (b := true) rfl rfl, decide_eq_true (show (1 : Int) ≤ (hs.length : Int) by omega), decide_eq_true (show (hs.length : Int) ≤ 8 by omega), f_sure, itemsD, cv, z1, allV_bls, all_true, dictV_hs h.nd, lenN_d, eS_all, D.allFK]
theorem getK_eS {z : Str} : ∀ hs : List (Str × Int), (getK (eS hs) (kS z)).isSome = decide (z ∈ hs.map (·.1))
  | [] => rfl
  | e :: hs => by
    show (getK ((kS e.1, D.int e.2) :: eS hs) (kS z)).isSome = _
    rw [getK]
    by_cases h : e.1 = z
    · subst h; rw [if_pos rfl]; simp
    · rw [if_neg (by simpa using h), getK_eS hs]
      have h2 : ¬ z = e.1 := fun q => h q.symm
      simp [h2]
theorem inU_dict {f : Fl} {z : Str} {hs : List (Str × Int)} : inU (.str z) (.dic f (eS hs)) = .ok (.bl (decide (z ∈ hs.map (·.1)))) := by
  unfold inU inB
  simp only [dgetD, keyK, Option.map_some, getK_eS]
  rfl
theorem ninU_dict {f : Fl} {z : Str} {hs : List (Str × Int)} : ninU (.str z) (.dic f (eS hs)) = .ok (.bl (!decide (z ∈ hs.map (·.1)))) := by
  unfold ninU inB
  simp only [dgetD, keyK, Option.map_some, getK_eS]
  rfl
abbrev eT (e : Str × Str) : D := .tup [.str e.1, .str e.2]
def srt (t : Str × Str) : List Str := sortS [t.1, t.2]
structure TOk (hs : List (Str × Int)) (ts : List (Str × Str)) : Prop where
  at' : ∀ t ∈ ts, t.1 ∈ hs.map (·.1) ∧ t.2 ∈ hs.map (·.1) ∧ t.1 ≠ t.2
  nd : (ts.map srt).Nodup
  few : ts.length < 64
theorem srt_two (t : Str × Str) : ∃ a b, srt t = [a, b] ∧ ∀ x, (x = a ∨ x = b) ↔ (x = t.1 ∨ x = t.2) := by
  have pm : (sortS [t.1, t.2]).Perm [t.1, t.2] := List.mergeSort_perm _ _
  have hl := pm.length_eq
  match h : sortS [t.1, t.2], hl with
  | [a, b], _ =>
    refine ⟨a, b, h, fun x => ?_⟩
    have := pm.mem_iff (a := x)
    rw [h] at this
    simpa using this
theorem HOk.mem {hs : List (Str × Int)} (h : HOk hs) {z : Str} (m : z ∈ hs.map (·.1)) : Nm z := by
  obtain ⟨e, me, rfl⟩ := List.mem_map.mp m
  exact (h.nm e me).1
def prs (ts : List (Str × Str)) : List (List Str) := sortT (ts.map srt)
theorem tupS_all {p : Fl → Bool} {m : List Str} : (tupS m).allF p = true := by unfold tupS; rw [D.allF]; exact strs_all m
theorem tupSs_all {p : Fl → Bool} {ms : List (List Str)} : D.allFL p (ms.map tupS) = true := allFL_map fun _ => tupS_all
theorem tupSs_map {g : Fl → Fl} {ms : List (List Str)} : D.mapFL g (ms.map tupS) = ms.map tupS := mapFL_plain tupSs_all
theorem tupS_q {m : List Str} : (tupS m).q = tupS m := mapF_plain (show (tupS m).plain = true from tupS_all)
theorem eTs_all {p : Fl → Bool} {ts : List (Str × Str)} : D.allFL p (ts.map eT) = true := allFL_map fun x => rfl
theorem eTs_map {g : Fl → Fl} {ts : List (Str × Str)} : D.mapFL g (ts.map eT) = ts.map eT := mapFL_plain eTs_all
theorem prs_at {hs : List (Str × Int)} {ts : List (Str × Str)} (t : TOk hs ts) {m : List Str} (hm : m ∈ prs ts) : ∃ a b, m = [a, b] ∧ a ∈ hs.map (·.1) ∧ b ∈ hs.map (·.1) := by
  obtain ⟨x, mx, rfl⟩ := List.mem_map.mp (sortT_mem.mp hm)
  obtain ⟨a, b, e, q⟩ := srt_two x
  obtain ⟨h1, h2, _⟩ := t.at' x mx
  refine ⟨a, b, e, ?_, ?_⟩
  · rcases (q a).mp (.inl rfl) with z | z <;> rw [z] <;> assumption
  · rcases (q b).mp (.inr rfl) with z | z <;> rw [z] <;> assumption
theorem f_pairs_of {hs : List (Str × Int)} {ts : List (Str × Str)} (h : HOk hs) (t : TOk hs ts) : F_pairs_of K A [.lst .bor (ts.map eT), .dic .bor (eS hs)] = .rt (.lst .own ((prs ts).map tupS)) [none, none] := by
  have z1 : ts.length ≤ sizeLine := Nat.le_trans (Nat.le_of_lt t.few) (by decide)
  have z2 : (prs ts).length = ts.length := by unfold prs; rw [sortT_length, List.length_map]
  have c1 : compV (.nm 3) tYes (qCall [.r] (F_is_pair K A) (aCons (qV 3) aNil)) ⟨[.val (.lst .bor (ts.map eT)), .val (.dic .bor (eS hs)), .no, .no, .no, .no], [none, none]⟩ (ts.map eT) = .ok ((ts.map fun _ => true).map D.bl) := by
    rw [List.map_map]
    refine compV_map ts fun e m => ⟨_, put_nm, rfl, ?_, rfl, rfl⟩
    obtain ⟨q1, q2, q3⟩ := t.at' e m
    simp -implicitDefEqProofs only [bind_ok, bind_ex, bind_no, pure_ok, pure_ex, pure_no, seqE_ok, seqE_ex, seqE_no, seqS_nx, seqS_rt, seqS_ex, seqS_bk, seqS_ct, seqS_no, sNext_ap, sBreak_ap, sCont_ap, sRetN_ap, sSeq_ap, sDrop_ap, sRet_ap, sSet_ap, sIf_ap, condS_t, condS_f, sKillO_ap, killO_nx, killO_bk, killO_ct, killO_rt, killO_ex, kill_cons, kill_nil, sAsg_ap, asgK_ap, sRaise_ap, sFor_ap, forK_ap, setS_mk, setA_mk, look_mk, lookS_val, lookS_arg, qV_ap, oD_some, lc_mk, lcS_val, lcS_arg, get_s, get_a, rm_s, rm_a, put_s, put_a, view_mk, Sl.view_val, Sl.view_arg, Sl.view_no, wipe_nil, wipe_cons, qC_ap, qOp_ap, qUn_ap, qCB_ap, aNil_ap, aCons_ap, tV_ap, tNot_ap, tAnd_ap, tOr_ap, condT_y, condT_tf, condT_ft, tYes_ap, qNot_ap, qAnd_ap, qOr_ap, condQ_y, condQ_tf, condQ_ft, qIf_ap, pickQ_t, pickQ_f, qTup_ap, qLst_ap, qFld_ap, oNone_ap, oSome_ap, qSl_ap, qLc_ap, iSeq_ap, iRange_ap, qCall_ap, qMeth_ap, qM1_ap, gQ_ap, liftO_ok, liftO_ex, gQT_ap, liftT_ok, liftT_ex, gMove_mk, gFz_mk, gOp_ap, gOpK_ap, gUn_ap, gCB_ap, finG_ok, gNil_ap, gCons_ap, gConsK_ap, lNil_ap, lCons_ap, lConsK_ap, gTupL_ap, gLstL_ap, gSt_ap, gTV_ap, gNot_ap, gAnd_ap, gOr_ap, condG_y, condG_tf, condG_ft, gIf_ap, pickG_t, pickG_f, giSeq_ap, giRange_ap, ofOG_some, ofO_some, gCall_ap, gCallK_ap, afterG_rt, afterG_ex, gMake_ap, gMakeK_ap, makeG_rt, makeG_ex, gLm_ap, isLst_ap, gLmK_ap, pNm_ap, pNmK_some, fnF_ap, finF_rt, finF_nx, finF_ex, sSubL_ap, subK_ap, faQ_ap, faQK_some, startP, stS, stA, okA, takeH, evalA, exP, Ag.sl, putH, toB, toI, lenV_ap, lenN_l, lenN_t, addV_i, subV_i, mulV_i, fdivV_i, modV_i, ltV_i, leV_i, gtV_i, geV_i, negV_i, eqV_i, eqV_s, eqV_b, neV_i, neV_s, neV_b, addV_s, addV_l, addV_t, ixV_t, ixV_tk, ixV_l, ixV_s, at_0, at_1, at_2, at_3, ix_0, ix_1, ix_2, decide_true, decide_false, mkTup, mkLst, mkTupG, mkLstG, fAppend, fExtend, fInsert, fClear, fPop, fRev, mkLc, D.free, D.up, D.st, D.view, D.fz, D.mapF, D.mapFL, viewF, fzF, D.noOwn, D.noBor, D.kept, D.allF, D.allFL, ownF, borF, keepF, List.map_cons, List.map_nil, List.length_cons, List.length_nil, List.length_map, List.replicate, List.cons_append, List.nil_append, List.append_nil, List.getElem?_cons_zero, List.getElem?_cons_succ, List.getElem?_nil, List.set_cons_zero, List.set_cons_succ, List.set_nil, Option.bind_some, Option.bind_none, Option.map_some, Option.map_none, id, Nat.zero_add, Nat.reduceAdd, Nat.reduceSub, Nat.sub_self, Nat.sub_zero, if_true, if_false, Bool.false_eq_true, Bool.and_true, Bool.true_and, Bool.not_true, Bool.not_false, and_true, true_and, and_self, reduceCtorEq, ne_eq, not_false_eq_true, sz_le, sz_lt, Nat.reduceLeDiff, ints_all, strs_all, callQ_ap, callK_some, giveQ_nil, giveQ_r, giveQ_k, resQ_rt, resQ_ex, q_str, q_int, q_bl, q_non, q_tup, q_lst, q_dic, q_dit, q_obj, qChain_ap, lenN_s, listV_t, listV_l, listV_d, tupleV_l, lenN_d, ixV_d, slV_l, all_true, ints_mp, strs_mp, fldD_ap, sFldF_ap, rndK_nx, rndK_ct, rndK_bk, rndK_rt, rndK_ex, forV_cons, forV_nil, sForMv_ap, mvK_some, pFld_ap, pFldK_o, pIx_ap, pIxK_l, pIxK_t, pIxK_d, gLmP_ap, gLmPK_ok, gLmPK_ex, mqNil_ap, mqCons_ap, Function.comp_apply, Function.comp_id, Function.id_comp, neV_strs, f_is_pair (h.mem q1) (h.mem q2), decide_eq_false q3]
  have c2 : compV (.nm 3) tYes (qCall [.r] (F_sorted_pair K A) (aCons (qV 3) aNil)) ⟨[.val (.lst .bor (ts.map eT)), .val (.dic .bor (eS hs)), .no, .no, .no, .no], [none, none]⟩ (ts.map eT) = .ok ((ts.map srt).map tupS) := by
    rw [List.map_map]
    refine compV_map ts fun e m => ⟨_, put_nm, rfl, ?_, rfl, tupS_all⟩
    obtain ⟨q1, q2, q3⟩ := t.at' e m
    simp -implicitDefEqProofs only [bind_ok, bind_ex, bind_no, pure_ok, pure_ex, pure_no, seqE_ok, seqE_ex, seqE_no, seqS_nx, seqS_rt, seqS_ex, seqS_bk, seqS_ct, seqS_no, sNext_ap, sBreak_ap, sCont_ap, sRetN_ap, sSeq_ap, sDrop_ap, sRet_ap, sSet_ap, sIf_ap, condS_t, condS_f, sKillO_ap, killO_nx, killO_bk, killO_ct, killO_rt, killO_ex, kill_cons, kill_nil, sAsg_ap, asgK_ap, sRaise_ap, sFor_ap, forK_ap, setS_mk, setA_mk, look_mk, lookS_val, lookS_arg, qV_ap, oD_some, lc_mk, lcS_val, lcS_arg, get_s, get_a, rm_s, rm_a, put_s, put_a, view_mk, Sl.view_val, Sl.view_arg, Sl.view_no, wipe_nil, wipe_cons, qC_ap, qOp_ap, qUn_ap, qCB_ap, aNil_ap, aCons_ap, tV_ap, tNot_ap, tAnd_ap, tOr_ap, condT_y, condT_tf, condT_ft, tYes_ap, qNot_ap, qAnd_ap, qOr_ap, condQ_y, condQ_tf, condQ_ft, qIf_ap, pickQ_t, pickQ_f, qTup_ap, qLst_ap, qFld_ap, oNone_ap, oSome_ap, qSl_ap, qLc_ap, iSeq_ap, iRange_ap, qCall_ap, qMeth_ap, qM1_ap, gQ_ap, liftO_ok, liftO_ex, gQT_ap, liftT_ok, liftT_ex, gMove_mk, gFz_mk, gOp_ap, gOpK_ap, gUn_ap, gCB_ap, finG_ok, gNil_ap, gCons_ap, gConsK_ap, lNil_ap, lCons_ap, lConsK_ap, gTupL_ap, gLstL_ap, gSt_ap, gTV_ap, gNot_ap, gAnd_ap, gOr_ap, condG_y, condG_tf, condG_ft, gIf_ap, pickG_t, pickG_f, giSeq_ap, giRange_ap, ofOG_some, ofO_some, gCall_ap, gCallK_ap, afterG_rt, afterG_ex, gMake_ap, gMakeK_ap, makeG_rt, makeG_ex, gLm_ap, isLst_ap, gLmK_ap, pNm_ap, pNmK_some, fnF_ap, finF_rt, finF_nx, finF_ex, sSubL_ap, subK_ap, faQ_ap, faQK_some, startP, stS, stA, okA, takeH, evalA, exP, Ag.sl, putH, toB, toI, lenV_ap, lenN_l, lenN_t, addV_i, subV_i, mulV_i, fdivV_i, modV_i, ltV_i, leV_i, gtV_i, geV_i, negV_i, eqV_i, eqV_s, eqV_b, neV_i, neV_s, neV_b, addV_s, addV_l, addV_t, ixV_t, ixV_tk, ixV_l, ixV_s, at_0, at_1, at_2, at_3, ix_0, ix_1, ix_2, decide_true, decide_false, mkTup, mkLst, mkTupG, mkLstG, fAppend, fExtend, fInsert, fClear, fPop, fRev, mkLc, D.free, D.up, D.st, D.view, D.fz, D.mapF, D.mapFL, viewF, fzF, D.noOwn, D.noBor, D.kept, D.allF, D.allFL, ownF, borF, keepF, List.map_cons, List.map_nil, List.length_cons, List.length_nil, List.length_map, List.replicate, List.cons_append, List.nil_append, List.append_nil, List.getElem?_cons_zero, List.getElem?_cons_succ, List.getElem?_nil, List.set_cons_zero, List.set_cons_succ, List.set_nil, Option.bind_some, Option.bind_none, Option.map_some, Option.map_none, id, Nat.zero_add, Nat.reduceAdd, Nat.reduceSub, Nat.sub_self, Nat.sub_zero, if_true, if_false, Bool.false_eq_true, Bool.and_true, Bool.true_and, Bool.not_true, Bool.not_false, and_true, true_and, and_self, reduceCtorEq, ne_eq, not_false_eq_true, sz_le, sz_lt, Nat.reduceLeDiff, ints_all, strs_all, callQ_ap, callK_some, giveQ_nil, giveQ_r, giveQ_k, resQ_rt, resQ_ex, q_str, q_int, q_bl, q_non, q_tup, q_lst, q_dic, q_dit, q_obj, qChain_ap, lenN_s, listV_t, listV_l, listV_d, tupleV_l, lenN_d, ixV_d, slV_l, all_true, ints_mp, strs_mp, fldD_ap, sFldF_ap, rndK_nx, rndK_ct, rndK_bk, rndK_rt, rndK_ex, forV_cons, forV_nil, sForMv_ap, mvK_some, pFld_ap, pFldK_o, pIx_ap, pIxK_l, pIxK_t, pIxK_d, gLmP_ap, gLmPK_ok, gLmPK_ex, mqNil_ap, mqCons_ap, Function.comp_apply, Function.comp_id, Function.id_comp, neV_strs, f_sorted_pair (nm_ok (h.mem q1)) (nm_ok (h.mem q2))]
    exact congrArg Out.ok tupS_q
  have c3 : compV (.tp [.nm 4, .nm 5]) tYes (qAnd (qOp inU (qV 4) (qV 1)) (qOp inU (qV 5) (qV 1))) ⟨[.val (.lst .bor (ts.map eT)), .val (.dic .bor (eS hs)), .val (.lst .own ((prs ts).map tupS)), .no, .no, .no], [none, none]⟩ ((prs ts).map tupS) = .ok (((prs ts).map fun _ => true).map D.bl) := by
    rw [List.map_map]
    refine compV_map _ fun m hm => ?_
    obtain ⟨a, b, rfl, q1, q2⟩ := prs_at t hm
    refine ⟨_, rfl, rfl, ?_, rfl, rfl⟩
    simp -implicitDefEqProofs only [bind_ok, bind_ex, bind_no, pure_ok, pure_ex, pure_no, seqE_ok, seqE_ex, seqE_no, seqS_nx, seqS_rt, seqS_ex, seqS_bk, seqS_ct, seqS_no, sNext_ap, sBreak_ap, sCont_ap, sRetN_ap, sSeq_ap, sDrop_ap, sRet_ap, sSet_ap, sIf_ap, condS_t, condS_f, sKillO_ap, killO_nx, killO_bk, killO_ct, killO_rt, killO_ex, kill_cons, kill_nil, sAsg_ap, asgK_ap, sRaise_ap, sFor_ap, forK_ap, setS_mk, setA_mk, look_mk, lookS_val, lookS_arg, qV_ap, oD_some, lc_mk, lcS_val, lcS_arg, get_s, get_a, rm_s, rm_a, put_s, put_a, view_mk, Sl.view_val, Sl.view_arg, Sl.view_no, wipe_nil, wipe_cons, qC_ap, qOp_ap, qUn_ap, qCB_ap, aNil_ap, aCons_ap, tV_ap, tNot_ap, tAnd_ap, tOr_ap, condT_y, condT_tf, condT_ft, tYes_ap, qNot_ap, qAnd_ap, qOr_ap, condQ_y, condQ_tf, condQ_ft, qIf_ap, pickQ_t, pickQ_f, qTup_ap, qLst_ap, qFld_ap, oNone_ap, oSome_ap, qSl_ap, qLc_ap, iSeq_ap, iRange_ap, qCall_ap, qMeth_ap, qM1_ap, gQ_ap, liftO_ok, liftO_ex, gQT_ap, liftT_ok, liftT_ex, gMove_mk, gFz_mk, gOp_ap, gOpK_ap, gUn_ap, gCB_ap, finG_ok, gNil_ap, gCons_ap, gConsK_ap, lNil_ap, lCons_ap, lConsK_ap, gTupL_ap, gLstL_ap, gSt_ap, gTV_ap, gNot_ap, gAnd_ap, gOr_ap, condG_y, condG_tf, condG_ft, gIf_ap, pickG_t, pickG_f, giSeq_ap, giRange_ap, ofOG_some, ofO_some, gCall_ap, gCallK_ap, afterG_rt, afterG_ex, gMake_ap, gMakeK_ap, makeG_rt, makeG_ex, gLm_ap, isLst_ap, gLmK_ap, pNm_ap, pNmK_some, fnF_ap, finF_rt, finF_nx, finF_ex, sSubL_ap, subK_ap, faQ_ap, faQK_some, startP, stS, stA, okA, takeH, evalA, exP, Ag.sl, putH, toB, toI, lenV_ap, lenN_l, lenN_t, addV_i, subV_i, mulV_i, fdivV_i, modV_i, ltV_i, leV_i, gtV_i, geV_i, negV_i, eqV_i, eqV_s, eqV_b, neV_i, neV_s, neV_b, addV_s, addV_l, addV_t, ixV_t, ixV_tk, ixV_l, ixV_s, at_0, at_1, at_2, at_3, ix_0, ix_1, ix_2, decide_true, decide_false, mkTup, mkLst, mkTupG, mkLstG, fAppend, fExtend, fInsert, fClear, fPop, fRev, mkLc, D.free, D.up, D.st, D.view, D.fz, D.mapF, D.mapFL, viewF, fzF, D.noOwn, D.noBor, D.kept, D.allF, D.allFL, ownF, borF, keepF, List.map_cons, List.map_nil, List.length_cons, List.length_nil, List.length_map, List.replicate, List.cons_append, List.nil_append, List.append_nil, List.getElem?_cons_zero, List.getElem?_cons_succ, List.getElem?_nil, List.set_cons_zero, List.set_cons_succ, List.set_nil, Option.bind_some, Option.bind_none, Option.map_some, Option.map_none, id, Nat.zero_add, Nat.reduceAdd, Nat.reduceSub, Nat.sub_self, Nat.sub_zero, if_true, if_false, Bool.false_eq_true, Bool.and_true, Bool.true_and, Bool.not_true, Bool.not_false, and_true, true_and, and_self, reduceCtorEq, ne_eq, not_false_eq_true, sz_le, sz_lt, Nat.reduceLeDiff, ints_all, strs_all, callQ_ap, callK_some, giveQ_nil, giveQ_r, giveQ_k, resQ_rt, resQ_ex, q_str, q_int, q_bl, q_non, q_tup, q_lst, q_dic, q_dit, q_obj, qChain_ap, lenN_s, listV_t, listV_l, listV_d, tupleV_l, lenN_d, ixV_d, slV_l, all_true, ints_mp, strs_mp, fldD_ap, sFldF_ap, rndK_nx, rndK_ct, rndK_bk, rndK_rt, rndK_ex, forV_cons, forV_nil, sForMv_ap, mvK_some, pFld_ap, pFldK_o, pIx_ap, pIxK_l, pIxK_t, pIxK_d, gLmP_ap, gLmPK_ok, gLmPK_ex, mqNil_ap, mqCons_ap, Function.comp_apply, Function.comp_id, Function.id_comp, neV_strs, inU_dict, decide_eq_true q1, decide_eq_true q2]
  have sv := sortV_tups (f := .new) (ms := ts.map srt) (fun m hm w hw => by
    obtain ⟨e, me, rfl⟩ := List.mem_map.mp hm
    obtain ⟨a, b, e2, q⟩ := srt_two e
    rw [e2] at hw
    have : w = a ∨ w = b := by simpa using hw
    obtain ⟨q1, q2, _⟩ := t.at' e me
    rcases (q w).mp this with z | z <;> rw [z]
    · exact nm_ok (h.mem q1)
    · exact nm_ok (h.mem q2)) (fun m hm => by
    obtain ⟨e, me, rfl⟩ := List.mem_map.mp hm
    obtain ⟨a, b, e2, q⟩ := srt_two e
    rw [e2]; simp)
  have nd : (prs ts).Nodup := sortT_pm.symm.nodup t.nd
  have ls : ∀ ρ : Plc, qV 2 ρ = .ok (.lst .own ((prs ts).map tupS)) → qLenSet (qV 2) ρ = .ok (.int (ts.length : Nat)) := fun ρ e => by
    unfold qLenSet
    rw [e]
    simp only [bind_ok, tupsD_map, Option.bind_some, distinct_id nd, z2, if_pos t.few, ofO_some]
  have ls' := ls ⟨[.val (.lst .bor (ts.map eT)), .val (.dic .bor (eS hs)), .val (.lst .own ((prs ts).map tupS)), .no, .no, .no], [none, none]⟩ rfl
  unfold F_pairs_of
  simp -implicitDefEqProofs only [bind_ok, bind_ex, bind_no, pure_ok, pure_ex, pure_no, seqE_ok, seqE_ex, seqE_no, seqS_nx, seqS_rt, seqS_ex, seqS_bk, seqS_ct, seqS_no, sNext_ap, sBreak_ap, sCont_ap, sRetN_ap, sSeq_ap, sDrop_ap, sRet_ap, sSet_ap, sIf_ap, condS_t, condS_f, sKillO_ap, killO_nx, killO_bk, killO_ct, killO_rt, killO_ex, kill_cons, kill_nil, sAsg_ap, asgK_ap, sRaise_ap, sFor_ap, forK_ap, setS_mk, setA_mk, look_mk, lookS_val, lookS_arg, qV_ap, oD_some, lc_mk, lcS_val, lcS_arg, get_s, get_a, rm_s, rm_a, put_s, put_a, view_mk, Sl.view_val, Sl.view_arg, Sl.view_no, wipe_nil, wipe_cons, qC_ap, qOp_ap, qUn_ap, qCB_ap, aNil_ap, aCons_ap, tV_ap, tNot_ap, tAnd_ap, tOr_ap, condT_y, condT_tf, condT_ft, tYes_ap, qNot_ap, qAnd_ap, qOr_ap, condQ_y, condQ_tf, condQ_ft, qIf_ap, pickQ_t, pickQ_f, qTup_ap, qLst_ap, qFld_ap, oNone_ap, oSome_ap, qSl_ap, qLc_ap, iSeq_ap, iRange_ap, qCall_ap, qMeth_ap, qM1_ap, gQ_ap, liftO_ok, liftO_ex, gQT_ap, liftT_ok, liftT_ex, gMove_mk, gFz_mk, gOp_ap, gOpK_ap, gUn_ap, gCB_ap, finG_ok, gNil_ap, gCons_ap, gConsK_ap, lNil_ap, lCons_ap, lConsK_ap, gTupL_ap, gLstL_ap, gSt_ap, gTV_ap, gNot_ap, gAnd_ap, gOr_ap, condG_y, condG_tf, condG_ft, gIf_ap, pickG_t, pickG_f, giSeq_ap, giRange_ap, ofOG_some, ofO_some, gCall_ap, gCallK_ap, afterG_rt, afterG_ex, gMake_ap, gMakeK_ap, makeG_rt, makeG_ex, gLm_ap, isLst_ap, gLmK_ap, pNm_ap, pNmK_some, fnF_ap, finF_rt, finF_nx, finF_ex, sSubL_ap, subK_ap, faQ_ap, faQK_some, startP, stS, stA, okA, takeH, evalA, exP, Ag.sl, putH, toB, toI, lenV_ap, lenN_l, lenN_t, addV_i, subV_i, mulV_i, fdivV_i, modV_i, ltV_i, leV_i, gtV_i, geV_i, negV_i, eqV_i, eqV_s, eqV_b, neV_i, neV_s, neV_b, addV_s, addV_l, addV_t, ixV_t, ixV_tk, ixV_l, ixV_s, at_0, at_1, at_2, at_3, ix_0, ix_1, ix_2, decide_true, decide_false, mkTup, mkLst, mkTupG, mkLstG, fAppend, fExtend, fInsert, fClear, fPop, fRev, mkLc, D.free, D.up, D.st, D.view, D.fz, D.mapF, D.mapFL, viewF, fzF, D.noOwn, D.noBor, D.kept, D.allF, D.allFL, ownF, borF, keepF, List.map_cons, List.map_nil, List.length_cons, List.length_nil, List.length_map, List.replicate, List.cons_append, List.nil_append, List.append_nil, List.getElem?_cons_zero, List.getElem?_cons_succ, List.getElem?_nil, List.set_cons_zero, List.set_cons_succ, List.set_nil, Option.bind_some, Option.bind_none, Option.map_some, Option.map_none, id, Nat.zero_add, Nat.reduceAdd, Nat.reduceSub, Nat.sub_self, Nat.sub_zero, if_true, if_false, Bool.false_eq_true, Bool.and_true, Bool.true_and, Bool.not_true, Bool.not_false, and_true, true_and, and_self, reduceCtorEq, ne_eq, not_false_eq_true, sz_le, sz_lt, Nat.reduceLeDiff, ints_all, strs_all, callQ_ap, callK_some, giveQ_nil, giveQ_r, giveQ_k, resQ_rt, resQ_ex, q_str, q_int, q_bl, q_non, q_tup, q_lst, q_dic, q_dit, q_obj, qChain_ap, lenN_s, listV_t, listV_l, listV_d, tupleV_l, lenN_d, ixV_d, slV_l, all_true, ints_mp, strs_mp, fldD_ap, sFldF_ap, rndK_nx, rndK_ct, rndK_bk, rndK_rt, rndK_ex, forV_cons, forV_nil, sForMv_ap, mvK_some, pFld_ap, pFldK_o, pIx_ap, pIxK_l, pIxK_t, pIxK_d, gLmP_ap, gLmPK_ok, gLmPK_ex, mqNil_ap, mqCons_ap, Function.comp_apply, Function.comp_id, Function.id_comp, neV_strs, isi_of (d := .lst .bor (ts.map eT)) (s := "list") (t := "list") (b := true) rfl rfl, itemsD, c1, z1, allV_bls, all_true, f_sure, c2, sv, show sortT (ts.map srt) = prs ts from rfl, tupSs_all, c3, z2, ls']
/-! ### the web -/
theorem sp_ne : kS "strong" ≠ kS "pairs" := by decide
abbrev webF (f : Fl) (hs : List (Str × Int)) (ts : List (Str × Str)) : List (Kd × D) := [(kS "strong", .dic f (eS hs)), (kS "pairs", .lst f ((prs ts).map tupS))]
abbrev eW (f : Fl) (A : Adr) (hs : List (Str × Int)) (ts : List (Str × Str)) : D := .obj f A.c_Web (webF f hs ts)
theorem gS {f : Fl} {hs : List (Str × Int)} {ts : List (Str × Str)} : getK (webF f hs ts) (kS "strong") = some (.dic f (eS hs)) := by simp [getK]
theorem gP {f : Fl} {hs : List (Str × Int)} {ts : List (Str × Str)} : getK (webF f hs ts) (kS "pairs") = some (.lst f ((prs ts).map tupS)) := by
  show getK ((kS "strong", _) :: _) _ = _
  rw [getK, if_neg sp_ne]
  simp [getK]
theorem f_init {hs : List (Str × Int)} {ts : List (Str × Str)} (h : HOk hs) (h1 : 1 ≤ hs.length) (h8 : hs.length ≤ 8) (t : TOk hs ts) : F_Web___init__ K A [.obj .own A.c_Web [], eH .bor hs, .lst .bor (ts.map eT)] = .rt .non [some (eW .own A hs ts), none, none] := by
  have p2 : ∀ d e : D, putFd [(kS "strong", d)] (kS "pairs") e = [(kS "strong", d), (kS "pairs", e)] := fun d e => by
    rw [putFd, if_neg sp_ne]; rfl
  have p1 : ∀ d : D, putFd [] (kS "strong") d = [(kS "strong", d)] := fun d => rfl
  have g1 : ∀ d : D, getK [(kS "strong", d)] (kS "strong") = some d := fun d => by simp [getK]
  unfold F_Web___init__
  simp -implicitDefEqProofs only [bind_ok, bind_ex, bind_no, pure_ok, pure_ex, pure_no, seqE_ok, seqE_ex, seqE_no, seqS_nx, seqS_rt, seqS_ex, seqS_bk, seqS_ct, seqS_no, sNext_ap, sBreak_ap, sCont_ap, sRetN_ap, sSeq_ap, sDrop_ap, sRet_ap, sSet_ap, sIf_ap, condS_t, condS_f, sKillO_ap, killO_nx, killO_bk, killO_ct, killO_rt, killO_ex, kill_cons, kill_nil, sAsg_ap, asgK_ap, sRaise_ap, sFor_ap, forK_ap, setS_mk, setA_mk, look_mk, lookS_val, lookS_arg, qV_ap, oD_some, lc_mk, lcS_val, lcS_arg, get_s, get_a, rm_s, rm_a, put_s, put_a, view_mk, Sl.view_val, Sl.view_arg, Sl.view_no, wipe_nil, wipe_cons, qC_ap, qOp_ap, qUn_ap, qCB_ap, aNil_ap, aCons_ap, tV_ap, tNot_ap, tAnd_ap, tOr_ap, condT_y, condT_tf, condT_ft, tYes_ap, qNot_ap, qAnd_ap, qOr_ap, condQ_y, condQ_tf, condQ_ft, qIf_ap, pickQ_t, pickQ_f, qTup_ap, qLst_ap, qFld_ap, oNone_ap, oSome_ap, qSl_ap, qLc_ap, iSeq_ap, iRange_ap, qCall_ap, qMeth_ap, qM1_ap, gQ_ap, liftO_ok, liftO_ex, gQT_ap, liftT_ok, liftT_ex, gMove_mk, gFz_mk, gOp_ap, gOpK_ap, gUn_ap, gCB_ap, finG_ok, gNil_ap, gCons_ap, gConsK_ap, lNil_ap, lCons_ap, lConsK_ap, gTupL_ap, gLstL_ap, gSt_ap, gTV_ap, gNot_ap, gAnd_ap, gOr_ap, condG_y, condG_tf, condG_ft, gIf_ap, pickG_t, pickG_f, giSeq_ap, giRange_ap, ofOG_some, ofO_some, gCall_ap, gCallK_ap, afterG_rt, afterG_ex, gMake_ap, gMakeK_ap, makeG_rt, makeG_ex, gLm_ap, isLst_ap, gLmK_ap, pNm_ap, pNmK_some, fnF_ap, finF_rt, finF_nx, finF_ex, sSubL_ap, subK_ap, faQ_ap, faQK_some, startP, stS, stA, okA, takeH, evalA, exP, Ag.sl, putH, toB, toI, lenV_ap, lenN_l, lenN_t, addV_i, subV_i, mulV_i, fdivV_i, modV_i, ltV_i, leV_i, gtV_i, geV_i, negV_i, eqV_i, eqV_s, eqV_b, neV_i, neV_s, neV_b, addV_s, addV_l, addV_t, ixV_t, ixV_tk, ixV_l, ixV_s, at_0, at_1, at_2, at_3, ix_0, ix_1, ix_2, decide_true, decide_false, mkTup, mkLst, mkTupG, mkLstG, fAppend, fExtend, fInsert, fClear, fPop, fRev, mkLc, D.free, D.up, D.st, D.view, D.fz, D.mapF, D.mapFL, viewF, fzF, D.noOwn, D.noBor, D.kept, D.allF, D.allFL, ownF, borF, keepF, List.map_cons, List.map_nil, List.length_cons, List.length_nil, List.length_map, List.replicate, List.cons_append, List.nil_append, List.append_nil, List.getElem?_cons_zero, List.getElem?_cons_succ, List.getElem?_nil, List.set_cons_zero, List.set_cons_succ, List.set_nil, Option.bind_some, Option.bind_none, Option.map_some, Option.map_none, id, Nat.zero_add, Nat.reduceAdd, Nat.reduceSub, Nat.sub_self, Nat.sub_zero, if_true, if_false, Bool.false_eq_true, Bool.and_true, Bool.true_and, Bool.not_true, Bool.not_false, and_true, true_and, and_self, reduceCtorEq, ne_eq, not_false_eq_true, sz_le, sz_lt, Nat.reduceLeDiff, ints_all, strs_all, callQ_ap, callK_some, giveQ_nil, giveQ_r, giveQ_k, resQ_rt, resQ_ex, q_str, q_int, q_bl, q_non, q_tup, q_lst, q_dic, q_dit, q_obj, qChain_ap, lenN_s, listV_t, listV_l, listV_d, tupleV_l, lenN_d, ixV_d, slV_l, all_true, ints_mp, strs_mp, fldD_ap, sFldF_ap, rndK_nx, rndK_ct, rndK_bk, rndK_rt, rndK_ex, forV_cons, forV_nil, sForMv_ap, mvK_some, pFld_ap, pFldK_o, pIx_ap, pIxK_l, pIxK_t, pIxK_d, gLmP_ap, gLmPK_ok, gLmPK_ex, mqNil_ap, mqCons_ap, Function.comp_apply, Function.comp_id, Function.id_comp, neV_strs, show (0 : Nat) < 1000 by decide, show (1 : Nat) < 1000 by decide, sFldF_ap, f_strengths_of h h1 h8, fldD_ap, g1, p1, p2, eS_all, eS_map, ePs_all, ePs_map, eTs_all, eTs_map, f_pairs_of h t, tupSs_all, tupSs_map, D.allFK, D.mapFK]
theorem f_hands {hs : List (Str × Int)} {ts : List (Str × Str)} (h : HOk hs) : F_Web_hands K A [eW .bor A hs ts] = .rt (.lst .own ((sortS (hs.map (·.1))).map D.str)) [none] := by
  have sv := sortV_strs (f := .new) (xs := hs.map (·.1)) fun x m => nm_ok (h.mem m)
  have e : ((eS hs).map fun e => kdD e.1) = (hs.map (·.1)).map D.str := by rw [List.map_map, List.map_map]; rfl
  unfold F_Web_hands
  simp -implicitDefEqProofs only [bind_ok, bind_ex, bind_no, pure_ok, pure_ex, pure_no, seqE_ok, seqE_ex, seqE_no, seqS_nx, seqS_rt, seqS_ex, seqS_bk, seqS_ct, seqS_no, sNext_ap, sBreak_ap, sCont_ap, sRetN_ap, sSeq_ap, sDrop_ap, sRet_ap, sSet_ap, sIf_ap, condS_t, condS_f, sKillO_ap, killO_nx, killO_bk, killO_ct, killO_rt, killO_ex, kill_cons, kill_nil, sAsg_ap, asgK_ap, sRaise_ap, sFor_ap, forK_ap, setS_mk, setA_mk, look_mk, lookS_val, lookS_arg, qV_ap, oD_some, lc_mk, lcS_val, lcS_arg, get_s, get_a, rm_s, rm_a, put_s, put_a, view_mk, Sl.view_val, Sl.view_arg, Sl.view_no, wipe_nil, wipe_cons, qC_ap, qOp_ap, qUn_ap, qCB_ap, aNil_ap, aCons_ap, tV_ap, tNot_ap, tAnd_ap, tOr_ap, condT_y, condT_tf, condT_ft, tYes_ap, qNot_ap, qAnd_ap, qOr_ap, condQ_y, condQ_tf, condQ_ft, qIf_ap, pickQ_t, pickQ_f, qTup_ap, qLst_ap, qFld_ap, oNone_ap, oSome_ap, qSl_ap, qLc_ap, iSeq_ap, iRange_ap, qCall_ap, qMeth_ap, qM1_ap, gQ_ap, liftO_ok, liftO_ex, gQT_ap, liftT_ok, liftT_ex, gMove_mk, gFz_mk, gOp_ap, gOpK_ap, gUn_ap, gCB_ap, finG_ok, gNil_ap, gCons_ap, gConsK_ap, lNil_ap, lCons_ap, lConsK_ap, gTupL_ap, gLstL_ap, gSt_ap, gTV_ap, gNot_ap, gAnd_ap, gOr_ap, condG_y, condG_tf, condG_ft, gIf_ap, pickG_t, pickG_f, giSeq_ap, giRange_ap, ofOG_some, ofO_some, gCall_ap, gCallK_ap, afterG_rt, afterG_ex, gMake_ap, gMakeK_ap, makeG_rt, makeG_ex, gLm_ap, isLst_ap, gLmK_ap, pNm_ap, pNmK_some, fnF_ap, finF_rt, finF_nx, finF_ex, sSubL_ap, subK_ap, faQ_ap, faQK_some, startP, stS, stA, okA, takeH, evalA, exP, Ag.sl, putH, toB, toI, lenV_ap, lenN_l, lenN_t, addV_i, subV_i, mulV_i, fdivV_i, modV_i, ltV_i, leV_i, gtV_i, geV_i, negV_i, eqV_i, eqV_s, eqV_b, neV_i, neV_s, neV_b, addV_s, addV_l, addV_t, ixV_t, ixV_tk, ixV_l, ixV_s, at_0, at_1, at_2, at_3, ix_0, ix_1, ix_2, decide_true, decide_false, mkTup, mkLst, mkTupG, mkLstG, fAppend, fExtend, fInsert, fClear, fPop, fRev, mkLc, D.free, D.up, D.st, D.view, D.fz, D.mapF, D.mapFL, viewF, fzF, D.noOwn, D.noBor, D.kept, D.allF, D.allFL, ownF, borF, keepF, List.map_cons, List.map_nil, List.length_cons, List.length_nil, List.length_map, List.replicate, List.cons_append, List.nil_append, List.append_nil, List.getElem?_cons_zero, List.getElem?_cons_succ, List.getElem?_nil, List.set_cons_zero, List.set_cons_succ, List.set_nil, Option.bind_some, Option.bind_none, Option.map_some, Option.map_none, id, Nat.zero_add, Nat.reduceAdd, Nat.reduceSub, Nat.sub_self, Nat.sub_zero, if_true, if_false, Bool.false_eq_true, Bool.and_true, Bool.true_and, Bool.not_true, Bool.not_false, and_true, true_and, and_self, reduceCtorEq, ne_eq, not_false_eq_true, sz_le, sz_lt, Nat.reduceLeDiff, ints_all, strs_all, callQ_ap, callK_some, giveQ_nil, giveQ_r, giveQ_k, resQ_rt, resQ_ex, q_str, q_int, q_bl, q_non, q_tup, q_lst, q_dic, q_dit, q_obj, qChain_ap, lenN_s, listV_t, listV_l, listV_d, tupleV_l, lenN_d, ixV_d, slV_l, all_true, ints_mp, strs_mp, fldD_ap, sFldF_ap, rndK_nx, rndK_ct, rndK_bk, rndK_rt, rndK_ex, forV_cons, forV_nil, sForMv_ap, mvK_some, pFld_ap, pFldK_o, pIx_ap, pIxK_l, pIxK_t, pIxK_d, gLmP_ap, gLmPK_ok, gLmPK_ex, mqNil_ap, mqCons_ap, Function.comp_apply, Function.comp_id, Function.id_comp, neV_strs, fldD_ap, gS, listV_d, e, sv]
theorem f_ties {hs : List (Str × Int)} {ts : List (Str × Str)} : F_Web_ties K A [eW .bor A hs ts] = .rt (.lst .own ((prs ts).map tupS)) [none] := by
  unfold F_Web_ties
  simp -implicitDefEqProofs only [bind_ok, bind_ex, bind_no, pure_ok, pure_ex, pure_no, seqE_ok, seqE_ex, seqE_no, seqS_nx, seqS_rt, seqS_ex, seqS_bk, seqS_ct, seqS_no, sNext_ap, sBreak_ap, sCont_ap, sRetN_ap, sSeq_ap, sDrop_ap, sRet_ap, sSet_ap, sIf_ap, condS_t, condS_f, sKillO_ap, killO_nx, killO_bk, killO_ct, killO_rt, killO_ex, kill_cons, kill_nil, sAsg_ap, asgK_ap, sRaise_ap, sFor_ap, forK_ap, setS_mk, setA_mk, look_mk, lookS_val, lookS_arg, qV_ap, oD_some, lc_mk, lcS_val, lcS_arg, get_s, get_a, rm_s, rm_a, put_s, put_a, view_mk, Sl.view_val, Sl.view_arg, Sl.view_no, wipe_nil, wipe_cons, qC_ap, qOp_ap, qUn_ap, qCB_ap, aNil_ap, aCons_ap, tV_ap, tNot_ap, tAnd_ap, tOr_ap, condT_y, condT_tf, condT_ft, tYes_ap, qNot_ap, qAnd_ap, qOr_ap, condQ_y, condQ_tf, condQ_ft, qIf_ap, pickQ_t, pickQ_f, qTup_ap, qLst_ap, qFld_ap, oNone_ap, oSome_ap, qSl_ap, qLc_ap, iSeq_ap, iRange_ap, qCall_ap, qMeth_ap, qM1_ap, gQ_ap, liftO_ok, liftO_ex, gQT_ap, liftT_ok, liftT_ex, gMove_mk, gFz_mk, gOp_ap, gOpK_ap, gUn_ap, gCB_ap, finG_ok, gNil_ap, gCons_ap, gConsK_ap, lNil_ap, lCons_ap, lConsK_ap, gTupL_ap, gLstL_ap, gSt_ap, gTV_ap, gNot_ap, gAnd_ap, gOr_ap, condG_y, condG_tf, condG_ft, gIf_ap, pickG_t, pickG_f, giSeq_ap, giRange_ap, ofOG_some, ofO_some, gCall_ap, gCallK_ap, afterG_rt, afterG_ex, gMake_ap, gMakeK_ap, makeG_rt, makeG_ex, gLm_ap, isLst_ap, gLmK_ap, pNm_ap, pNmK_some, fnF_ap, finF_rt, finF_nx, finF_ex, sSubL_ap, subK_ap, faQ_ap, faQK_some, startP, stS, stA, okA, takeH, evalA, exP, Ag.sl, putH, toB, toI, lenV_ap, lenN_l, lenN_t, addV_i, subV_i, mulV_i, fdivV_i, modV_i, ltV_i, leV_i, gtV_i, geV_i, negV_i, eqV_i, eqV_s, eqV_b, neV_i, neV_s, neV_b, addV_s, addV_l, addV_t, ixV_t, ixV_tk, ixV_l, ixV_s, at_0, at_1, at_2, at_3, ix_0, ix_1, ix_2, decide_true, decide_false, mkTup, mkLst, mkTupG, mkLstG, fAppend, fExtend, fInsert, fClear, fPop, fRev, mkLc, D.free, D.up, D.st, D.view, D.fz, D.mapF, D.mapFL, viewF, fzF, D.noOwn, D.noBor, D.kept, D.allF, D.allFL, ownF, borF, keepF, List.map_cons, List.map_nil, List.length_cons, List.length_nil, List.length_map, List.replicate, List.cons_append, List.nil_append, List.append_nil, List.getElem?_cons_zero, List.getElem?_cons_succ, List.getElem?_nil, List.set_cons_zero, List.set_cons_succ, List.set_nil, Option.bind_some, Option.bind_none, Option.map_some, Option.map_none, id, Nat.zero_add, Nat.reduceAdd, Nat.reduceSub, Nat.sub_self, Nat.sub_zero, if_true, if_false, Bool.false_eq_true, Bool.and_true, Bool.true_and, Bool.not_true, Bool.not_false, and_true, true_and, and_self, reduceCtorEq, ne_eq, not_false_eq_true, sz_le, sz_lt, Nat.reduceLeDiff, ints_all, strs_all, callQ_ap, callK_some, giveQ_nil, giveQ_r, giveQ_k, resQ_rt, resQ_ex, q_str, q_int, q_bl, q_non, q_tup, q_lst, q_dic, q_dit, q_obj, qChain_ap, lenN_s, listV_t, listV_l, listV_d, tupleV_l, lenN_d, ixV_d, slV_l, all_true, ints_mp, strs_mp, fldD_ap, sFldF_ap, rndK_nx, rndK_ct, rndK_bk, rndK_rt, rndK_ex, forV_cons, forV_nil, sForMv_ap, mvK_some, pFld_ap, pFldK_o, pIx_ap, pIxK_l, pIxK_t, pIxK_d, gLmP_ap, gLmPK_ok, gLmPK_ex, mqNil_ap, mqCons_ap, Function.comp_apply, Function.comp_id, Function.id_comp, neV_strs, fldD_ap, gP, listV_l, tupSs_all]
theorem f_check_hand {hs : List (Str × Int)} {ts : List (Str × Str)} {z : Str} (m : z ∈ hs.map (·.1)) : F_Web_check_hand K A [eW .bor A hs ts, .str z] = .rt .non [none, none] := by
  unfold F_Web_check_hand
  simp -implicitDefEqProofs only [bind_ok, bind_ex, bind_no, pure_ok, pure_ex, pure_no, seqE_ok, seqE_ex, seqE_no, seqS_nx, seqS_rt, seqS_ex, seqS_bk, seqS_ct, seqS_no, sNext_ap, sBreak_ap, sCont_ap, sRetN_ap, sSeq_ap, sDrop_ap, sRet_ap, sSet_ap, sIf_ap, condS_t, condS_f, sKillO_ap, killO_nx, killO_bk, killO_ct, killO_rt, killO_ex, kill_cons, kill_nil, sAsg_ap, asgK_ap, sRaise_ap, sFor_ap, forK_ap, setS_mk, setA_mk, look_mk, lookS_val, lookS_arg, qV_ap, oD_some, lc_mk, lcS_val, lcS_arg, get_s, get_a, rm_s, rm_a, put_s, put_a, view_mk, Sl.view_val, Sl.view_arg, Sl.view_no, wipe_nil, wipe_cons, qC_ap, qOp_ap, qUn_ap, qCB_ap, aNil_ap, aCons_ap, tV_ap, tNot_ap, tAnd_ap, tOr_ap, condT_y, condT_tf, condT_ft, tYes_ap, qNot_ap, qAnd_ap, qOr_ap, condQ_y, condQ_tf, condQ_ft, qIf_ap, pickQ_t, pickQ_f, qTup_ap, qLst_ap, qFld_ap, oNone_ap, oSome_ap, qSl_ap, qLc_ap, iSeq_ap, iRange_ap, qCall_ap, qMeth_ap, qM1_ap, gQ_ap, liftO_ok, liftO_ex, gQT_ap, liftT_ok, liftT_ex, gMove_mk, gFz_mk, gOp_ap, gOpK_ap, gUn_ap, gCB_ap, finG_ok, gNil_ap, gCons_ap, gConsK_ap, lNil_ap, lCons_ap, lConsK_ap, gTupL_ap, gLstL_ap, gSt_ap, gTV_ap, gNot_ap, gAnd_ap, gOr_ap, condG_y, condG_tf, condG_ft, gIf_ap, pickG_t, pickG_f, giSeq_ap, giRange_ap, ofOG_some, ofO_some, gCall_ap, gCallK_ap, afterG_rt, afterG_ex, gMake_ap, gMakeK_ap, makeG_rt, makeG_ex, gLm_ap, isLst_ap, gLmK_ap, pNm_ap, pNmK_some, fnF_ap, finF_rt, finF_nx, finF_ex, sSubL_ap, subK_ap, faQ_ap, faQK_some, startP, stS, stA, okA, takeH, evalA, exP, Ag.sl, putH, toB, toI, lenV_ap, lenN_l, lenN_t, addV_i, subV_i, mulV_i, fdivV_i, modV_i, ltV_i, leV_i, gtV_i, geV_i, negV_i, eqV_i, eqV_s, eqV_b, neV_i, neV_s, neV_b, addV_s, addV_l, addV_t, ixV_t, ixV_tk, ixV_l, ixV_s, at_0, at_1, at_2, at_3, ix_0, ix_1, ix_2, decide_true, decide_false, mkTup, mkLst, mkTupG, mkLstG, fAppend, fExtend, fInsert, fClear, fPop, fRev, mkLc, D.free, D.up, D.st, D.view, D.fz, D.mapF, D.mapFL, viewF, fzF, D.noOwn, D.noBor, D.kept, D.allF, D.allFL, ownF, borF, keepF, List.map_cons, List.map_nil, List.length_cons, List.length_nil, List.length_map, List.replicate, List.cons_append, List.nil_append, List.append_nil, List.getElem?_cons_zero, List.getElem?_cons_succ, List.getElem?_nil, List.set_cons_zero, List.set_cons_succ, List.set_nil, Option.bind_some, Option.bind_none, Option.map_some, Option.map_none, id, Nat.zero_add, Nat.reduceAdd, Nat.reduceSub, Nat.sub_self, Nat.sub_zero, if_true, if_false, Bool.false_eq_true, Bool.and_true, Bool.true_and, Bool.not_true, Bool.not_false, and_true, true_and, and_self, reduceCtorEq, ne_eq, not_false_eq_true, sz_le, sz_lt, Nat.reduceLeDiff, ints_all, strs_all, callQ_ap, callK_some, giveQ_nil, giveQ_r, giveQ_k, resQ_rt, resQ_ex, q_str, q_int, q_bl, q_non, q_tup, q_lst, q_dic, q_dit, q_obj, qChain_ap, lenN_s, listV_t, listV_l, listV_d, tupleV_l, lenN_d, ixV_d, slV_l, all_true, ints_mp, strs_mp, fldD_ap, sFldF_ap, rndK_nx, rndK_ct, rndK_bk, rndK_rt, rndK_ex, forV_cons, forV_nil, sForMv_ap, mvK_some, pFld_ap, pFldK_o, pIx_ap, pIxK_l, pIxK_t, pIxK_d, gLmP_ap, gLmPK_ok, gLmPK_ex, mqNil_ap, mqCons_ap, Function.comp_apply, Function.comp_id, Function.id_comp, neV_strs, isi_of (d := .str z) (s := "str") (t := "str") (b := true) rfl rfl, fldD_ap, gS, ninU_dict, decide_eq_true m]
theorem getK_at {z : Str} {n : Int} : ∀ {hs : List (Str × Int)}, (hs.map (·.1)).Nodup → (z, n) ∈ hs → getK (eS hs) (kS z) = some (.int n)
  | e :: hs, h, m => by
    show getK ((kS e.1, D.int e.2) :: eS hs) (kS z) = _
    rw [List.map_cons, List.nodup_cons] at h
    rw [getK]
    rcases List.mem_cons.mp m with rfl | m
    · rw [if_pos rfl]
    · rw [if_neg, getK_at h.2 m]
      intro q
      have q2 : e.1 = z := by simpa using q
      exact h.1 (by rw [q2]; exact List.mem_map_of_mem (f := (·.1)) m)
theorem f_strength {hs : List (Str × Int)} {ts : List (Str × Str)} {z : Str} {n : Int} (h : HOk hs) (m : (z, n) ∈ hs) : F_Web_strength K A [eW .bor A hs ts, .str z] = .rt (.int n) [none, none] := by
  have io : VL.isObj A.c_Web "check_hand" (eW .bor A hs ts) = true := by
    show (decide (A.c_Web = A.c_Web) && (decide (kS "strong" ≠ kS "check_hand") && (decide (kS "pairs" ≠ kS "check_hand") && true))) = true
    rw [decide_eq_true rfl, decide_eq_true (show kS "strong" ≠ kS "check_hand" by decide), decide_eq_true (show kS "pairs" ≠ kS "check_hand" by decide)]
    rfl
  have vw : D.mapFK viewF (webF .bor hs ts) = webF .bor hs ts := by
    simp only [webF, D.mapFK, D.mapF, viewF, eS_map, tupSs_map]
  unfold F_Web_strength
  simp -implicitDefEqProofs only [bind_ok, bind_ex, bind_no, pure_ok, pure_ex, pure_no, seqE_ok, seqE_ex, seqE_no, seqS_nx, seqS_rt, seqS_ex, seqS_bk, seqS_ct, seqS_no, sNext_ap, sBreak_ap, sCont_ap, sRetN_ap, sSeq_ap, sDrop_ap, sRet_ap, sSet_ap, sIf_ap, condS_t, condS_f, sKillO_ap, killO_nx, killO_bk, killO_ct, killO_rt, killO_ex, kill_cons, kill_nil, sAsg_ap, asgK_ap, sRaise_ap, sFor_ap, forK_ap, setS_mk, setA_mk, look_mk, lookS_val, lookS_arg, qV_ap, oD_some, lc_mk, lcS_val, lcS_arg, get_s, get_a, rm_s, rm_a, put_s, put_a, view_mk, Sl.view_val, Sl.view_arg, Sl.view_no, wipe_nil, wipe_cons, qC_ap, qOp_ap, qUn_ap, qCB_ap, aNil_ap, aCons_ap, tV_ap, tNot_ap, tAnd_ap, tOr_ap, condT_y, condT_tf, condT_ft, tYes_ap, qNot_ap, qAnd_ap, qOr_ap, condQ_y, condQ_tf, condQ_ft, qIf_ap, pickQ_t, pickQ_f, qTup_ap, qLst_ap, qFld_ap, oNone_ap, oSome_ap, qSl_ap, qLc_ap, iSeq_ap, iRange_ap, qCall_ap, qMeth_ap, qM1_ap, gQ_ap, liftO_ok, liftO_ex, gQT_ap, liftT_ok, liftT_ex, gMove_mk, gFz_mk, gOp_ap, gOpK_ap, gUn_ap, gCB_ap, finG_ok, gNil_ap, gCons_ap, gConsK_ap, lNil_ap, lCons_ap, lConsK_ap, gTupL_ap, gLstL_ap, gSt_ap, gTV_ap, gNot_ap, gAnd_ap, gOr_ap, condG_y, condG_tf, condG_ft, gIf_ap, pickG_t, pickG_f, giSeq_ap, giRange_ap, ofOG_some, ofO_some, gCall_ap, gCallK_ap, afterG_rt, afterG_ex, gMake_ap, gMakeK_ap, makeG_rt, makeG_ex, gLm_ap, isLst_ap, gLmK_ap, pNm_ap, pNmK_some, fnF_ap, finF_rt, finF_nx, finF_ex, sSubL_ap, subK_ap, faQ_ap, faQK_some, startP, stS, stA, okA, takeH, evalA, exP, Ag.sl, putH, toB, toI, lenV_ap, lenN_l, lenN_t, addV_i, subV_i, mulV_i, fdivV_i, modV_i, ltV_i, leV_i, gtV_i, geV_i, negV_i, eqV_i, eqV_s, eqV_b, neV_i, neV_s, neV_b, addV_s, addV_l, addV_t, ixV_t, ixV_tk, ixV_l, ixV_s, at_0, at_1, at_2, at_3, ix_0, ix_1, ix_2, decide_true, decide_false, mkTup, mkLst, mkTupG, mkLstG, fAppend, fExtend, fInsert, fClear, fPop, fRev, mkLc, D.free, D.up, D.st, D.view, D.fz, D.mapF, D.mapFL, viewF, fzF, D.noOwn, D.noBor, D.kept, D.allF, D.allFL, ownF, borF, keepF, List.map_cons, List.map_nil, List.length_cons, List.length_nil, List.length_map, List.replicate, List.cons_append, List.nil_append, List.append_nil, List.getElem?_cons_zero, List.getElem?_cons_succ, List.getElem?_nil, List.set_cons_zero, List.set_cons_succ, List.set_nil, Option.bind_some, Option.bind_none, Option.map_some, Option.map_none, id, Nat.zero_add, Nat.reduceAdd, Nat.reduceSub, Nat.sub_self, Nat.sub_zero, if_true, if_false, Bool.false_eq_true, Bool.and_true, Bool.true_and, Bool.not_true, Bool.not_false, and_true, true_and, and_self, reduceCtorEq, ne_eq, not_false_eq_true, sz_le, sz_lt, Nat.reduceLeDiff, ints_all, strs_all, callQ_ap, callK_some, giveQ_nil, giveQ_r, giveQ_k, resQ_rt, resQ_ex, q_str, q_int, q_bl, q_non, q_tup, q_lst, q_dic, q_dit, q_obj, qChain_ap, lenN_s, listV_t, listV_l, listV_d, tupleV_l, lenN_d, ixV_d, slV_l, all_true, ints_mp, strs_mp, fldD_ap, sFldF_ap, rndK_nx, rndK_ct, rndK_bk, rndK_rt, rndK_ex, forV_cons, forV_nil, sForMv_ap, mvK_some, pFld_ap, pFldK_o, pIx_ap, pIxK_l, pIxK_t, pIxK_d, gLmP_ap, gLmPK_ok, gLmPK_ex, mqNil_ap, mqCons_ap, Function.comp_apply, Function.comp_id, Function.id_comp, neV_strs, io, vw, f_check_hand (List.mem_map_of_mem (f := (·.1)) m), fldD_ap, gS, ixV_d, getK_at h.nd m]
def piece (z : Str) : List Str → List Str
  | [a, b] => (if a = z then [b] else []) ++ (if b = z then [a] else [])
  | _ => []
def nearP (z : Str) (ms : List (List Str)) : List Str := ms.flatMap (piece z)
theorem near_loop {w : D} {z : Str} : ∀ (ms : List (List Str)) (acc : List Str), (∀ m ∈ ms, ∃ a b, m = [a, b] ∧ a ≠ b) → acc.length + ms.length ≤ 1000 → forV (.tp [.nm 3, .nm 4]) (B0_Web_neighbours K A) (ms.map tupS) ⟨[.val w, .val (.str z), .val (.lst .own (acc.map D.str)), .no, .no], [none, none]⟩ = .nx ⟨[.val w, .val (.str z), .val (.lst .own ((acc ++ nearP z ms).map D.str)), .no, .no], [none, none]⟩
  | [], acc, _, _ => by simp [nearP, forV]
  | m :: ms, acc, h, hl => by
    obtain ⟨a, b, rfl, ne⟩ := h m (by simp)
    have hz : acc.length < sizeLine := Nat.lt_of_lt_of_le (show acc.length < 1000 by simp at hl; omega) (by decide)
    have rd : B0_Web_neighbours K A ⟨[.val w, .val (.str z), .val (.lst .own (acc.map D.str)), .val (.str a), .val (.str b)], [none, none]⟩ = .nx ⟨[.val w, .val (.str z), .val (.lst .own ((acc ++ piece z [a, b]).map D.str)), .no, .no], [none, none]⟩ := by
      unfold B0_Web_neighbours
      by_cases ha : a = z
      · have hb : b ≠ z := fun e => ne (ha.trans e.symm)
        simp -implicitDefEqProofs only [bind_ok, bind_ex, bind_no, pure_ok, pure_ex, pure_no, seqE_ok, seqE_ex, seqE_no, seqS_nx, seqS_rt, seqS_ex, seqS_bk, seqS_ct, seqS_no, sNext_ap, sBreak_ap, sCont_ap, sRetN_ap, sSeq_ap, sDrop_ap, sRet_ap, sSet_ap, sIf_ap, condS_t, condS_f, sKillO_ap, killO_nx, killO_bk, killO_ct, killO_rt, killO_ex, kill_cons, kill_nil, sAsg_ap, asgK_ap, sRaise_ap, sFor_ap, forK_ap, setS_mk, setA_mk, look_mk, lookS_val, lookS_arg, qV_ap, oD_some, lc_mk, lcS_val, lcS_arg, get_s, get_a, rm_s, rm_a, put_s, put_a, view_mk, Sl.view_val, Sl.view_arg, Sl.view_no, wipe_nil, wipe_cons, qC_ap, qOp_ap, qUn_ap, qCB_ap, aNil_ap, aCons_ap, tV_ap, tNot_ap, tAnd_ap, tOr_ap, condT_y, condT_tf, condT_ft, tYes_ap, qNot_ap, qAnd_ap, qOr_ap, condQ_y, condQ_tf, condQ_ft, qIf_ap, pickQ_t, pickQ_f, qTup_ap, qLst_ap, qFld_ap, oNone_ap, oSome_ap, qSl_ap, qLc_ap, iSeq_ap, iRange_ap, qCall_ap, qMeth_ap, qM1_ap, gQ_ap, liftO_ok, liftO_ex, gQT_ap, liftT_ok, liftT_ex, gMove_mk, gFz_mk, gOp_ap, gOpK_ap, gUn_ap, gCB_ap, finG_ok, gNil_ap, gCons_ap, gConsK_ap, lNil_ap, lCons_ap, lConsK_ap, gTupL_ap, gLstL_ap, gSt_ap, gTV_ap, gNot_ap, gAnd_ap, gOr_ap, condG_y, condG_tf, condG_ft, gIf_ap, pickG_t, pickG_f, giSeq_ap, giRange_ap, ofOG_some, ofO_some, gCall_ap, gCallK_ap, afterG_rt, afterG_ex, gMake_ap, gMakeK_ap, makeG_rt, makeG_ex, gLm_ap, isLst_ap, gLmK_ap, pNm_ap, pNmK_some, fnF_ap, finF_rt, finF_nx, finF_ex, sSubL_ap, subK_ap, faQ_ap, faQK_some, startP, stS, stA, okA, takeH, evalA, exP, Ag.sl, putH, toB, toI, lenV_ap, lenN_l, lenN_t, addV_i, subV_i, mulV_i, fdivV_i, modV_i, ltV_i, leV_i, gtV_i, geV_i, negV_i, eqV_i, eqV_s, eqV_b, neV_i, neV_s, neV_b, addV_s, addV_l, addV_t, ixV_t, ixV_tk, ixV_l, ixV_s, at_0, at_1, at_2, at_3, ix_0, ix_1, ix_2, decide_true, decide_false, mkTup, mkLst, mkTupG, mkLstG, fAppend, fExtend, fInsert, fClear, fPop, fRev, mkLc, D.free, D.up, D.st, D.view, D.fz, D.mapF, D.mapFL, viewF, fzF, D.noOwn, D.noBor, D.kept, D.allF, D.allFL, ownF, borF, keepF, List.map_cons, List.map_nil, List.length_cons, List.length_nil, List.length_map, List.replicate, List.cons_append, List.nil_append, List.append_nil, List.getElem?_cons_zero, List.getElem?_cons_succ, List.getElem?_nil, List.set_cons_zero, List.set_cons_succ, List.set_nil, Option.bind_some, Option.bind_none, Option.map_some, Option.map_none, id, Nat.zero_add, Nat.reduceAdd, Nat.reduceSub, Nat.sub_self, Nat.sub_zero, if_true, if_false, Bool.false_eq_true, Bool.and_true, Bool.true_and, Bool.not_true, Bool.not_false, and_true, true_and, and_self, reduceCtorEq, ne_eq, not_false_eq_true, sz_le, sz_lt, Nat.reduceLeDiff, ints_all, strs_all, callQ_ap, callK_some, giveQ_nil, giveQ_r, giveQ_k, resQ_rt, resQ_ex, q_str, q_int, q_bl, q_non, q_tup, q_lst, q_dic, q_dit, q_obj, qChain_ap, lenN_s, listV_t, listV_l, listV_d, tupleV_l, lenN_d, ixV_d, slV_l, all_true, ints_mp, strs_mp, fldD_ap, sFldF_ap, rndK_nx, rndK_ct, rndK_bk, rndK_rt, rndK_ex, forV_cons, forV_nil, sForMv_ap, mvK_some, pFld_ap, pFldK_o, pIx_ap, pIxK_l, pIxK_t, pIxK_d, gLmP_ap, gLmPK_ok, gLmPK_ex, mqNil_ap, mqCons_ap, Function.comp_apply, Function.comp_id, Function.id_comp, neV_strs, decide_eq_true ha, decide_eq_false hb, hz]
        simp [piece, ha, hb]
      · by_cases hb : b = z
        · simp -implicitDefEqProofs only [bind_ok, bind_ex, bind_no, pure_ok, pure_ex, pure_no, seqE_ok, seqE_ex, seqE_no, seqS_nx, seqS_rt, seqS_ex, seqS_bk, seqS_ct, seqS_no, sNext_ap, sBreak_ap, sCont_ap, sRetN_ap, sSeq_ap, sDrop_ap, sRet_ap, sSet_ap, sIf_ap, condS_t, condS_f, sKillO_ap, killO_nx, killO_bk, killO_ct, killO_rt, killO_ex, kill_cons, kill_nil, sAsg_ap, asgK_ap, sRaise_ap, sFor_ap, forK_ap, setS_mk, setA_mk, look_mk, lookS_val, lookS_arg, qV_ap, oD_some, lc_mk, lcS_val, lcS_arg, get_s, get_a, rm_s, rm_a, put_s, put_a, view_mk, Sl.view_val, Sl.view_arg, Sl.view_no, wipe_nil, wipe_cons, qC_ap, qOp_ap, qUn_ap, qCB_ap, aNil_ap, aCons_ap, tV_ap, tNot_ap, tAnd_ap, tOr_ap, condT_y, condT_tf, condT_ft, tYes_ap, qNot_ap, qAnd_ap, qOr_ap, condQ_y, condQ_tf, condQ_ft, qIf_ap, pickQ_t, pickQ_f, qTup_ap, qLst_ap, qFld_ap, oNone_ap, oSome_ap, qSl_ap, qLc_ap, iSeq_ap, iRange_ap, qCall_ap, qMeth_ap, qM1_ap, gQ_ap, liftO_ok, liftO_ex, gQT_ap, liftT_ok, liftT_ex, gMove_mk, gFz_mk, gOp_ap, gOpK_ap, gUn_ap, gCB_ap, finG_ok, gNil_ap, gCons_ap, gConsK_ap, lNil_ap, lCons_ap, lConsK_ap, gTupL_ap, gLstL_ap, gSt_ap, gTV_ap, gNot_ap, gAnd_ap, gOr_ap, condG_y, condG_tf, condG_ft, gIf_ap, pickG_t, pickG_f, giSeq_ap, giRange_ap, ofOG_some, ofO_some, gCall_ap, gCallK_ap, afterG_rt, afterG_ex, gMake_ap, gMakeK_ap, makeG_rt, makeG_ex, gLm_ap, isLst_ap, gLmK_ap, pNm_ap, pNmK_some, fnF_ap, finF_rt, finF_nx, finF_ex, sSubL_ap, subK_ap, faQ_ap, faQK_some, startP, stS, stA, okA, takeH, evalA, exP, Ag.sl, putH, toB, toI, lenV_ap, lenN_l, lenN_t, addV_i, subV_i, mulV_i, fdivV_i, modV_i, ltV_i, leV_i, gtV_i, geV_i, negV_i, eqV_i, eqV_s, eqV_b, neV_i, neV_s, neV_b, addV_s, addV_l, addV_t, ixV_t, ixV_tk, ixV_l, ixV_s, at_0, at_1, at_2, at_3, ix_0, ix_1, ix_2, decide_true, decide_false, mkTup, mkLst, mkTupG, mkLstG, fAppend, fExtend, fInsert, fClear, fPop, fRev, mkLc, D.free, D.up, D.st, D.view, D.fz, D.mapF, D.mapFL, viewF, fzF, D.noOwn, D.noBor, D.kept, D.allF, D.allFL, ownF, borF, keepF, List.map_cons, List.map_nil, List.length_cons, List.length_nil, List.length_map, List.replicate, List.cons_append, List.nil_append, List.append_nil, List.getElem?_cons_zero, List.getElem?_cons_succ, List.getElem?_nil, List.set_cons_zero, List.set_cons_succ, List.set_nil, Option.bind_some, Option.bind_none, Option.map_some, Option.map_none, id, Nat.zero_add, Nat.reduceAdd, Nat.reduceSub, Nat.sub_self, Nat.sub_zero, if_true, if_false, Bool.false_eq_true, Bool.and_true, Bool.true_and, Bool.not_true, Bool.not_false, and_true, true_and, and_self, reduceCtorEq, ne_eq, not_false_eq_true, sz_le, sz_lt, Nat.reduceLeDiff, ints_all, strs_all, callQ_ap, callK_some, giveQ_nil, giveQ_r, giveQ_k, resQ_rt, resQ_ex, q_str, q_int, q_bl, q_non, q_tup, q_lst, q_dic, q_dit, q_obj, qChain_ap, lenN_s, listV_t, listV_l, listV_d, tupleV_l, lenN_d, ixV_d, slV_l, all_true, ints_mp, strs_mp, fldD_ap, sFldF_ap, rndK_nx, rndK_ct, rndK_bk, rndK_rt, rndK_ex, forV_cons, forV_nil, sForMv_ap, mvK_some, pFld_ap, pFldK_o, pIx_ap, pIxK_l, pIxK_t, pIxK_d, gLmP_ap, gLmPK_ok, gLmPK_ex, mqNil_ap, mqCons_ap, Function.comp_apply, Function.comp_id, Function.id_comp, neV_strs, decide_eq_false ha, decide_eq_true hb, hz]
          simp [piece, ha, hb]
        · simp -implicitDefEqProofs only [bind_ok, bind_ex, bind_no, pure_ok, pure_ex, pure_no, seqE_ok, seqE_ex, seqE_no, seqS_nx, seqS_rt, seqS_ex, seqS_bk, seqS_ct, seqS_no, sNext_ap, sBreak_ap, sCont_ap, sRetN_ap, sSeq_ap, sDrop_ap, sRet_ap, sSet_ap, sIf_ap, condS_t, condS_f, sKillO_ap, killO_nx, killO_bk, killO_ct, killO_rt, killO_ex, kill_cons, kill_nil, sAsg_ap, asgK_ap, sRaise_ap, sFor_ap, forK_ap, setS_mk, setA_mk, look_mk, lookS_val, lookS_arg, qV_ap, oD_some, lc_mk, lcS_val, lcS_arg, get_s, get_a, rm_s, rm_a, put_s, put_a, view_mk, Sl.view_val, Sl.view_arg, Sl.view_no, wipe_nil, wipe_cons, qC_ap, qOp_ap, qUn_ap, qCB_ap, aNil_ap, aCons_ap, tV_ap, tNot_ap, tAnd_ap, tOr_ap, condT_y, condT_tf, condT_ft, tYes_ap, qNot_ap, qAnd_ap, qOr_ap, condQ_y, condQ_tf, condQ_ft, qIf_ap, pickQ_t, pickQ_f, qTup_ap, qLst_ap, qFld_ap, oNone_ap, oSome_ap, qSl_ap, qLc_ap, iSeq_ap, iRange_ap, qCall_ap, qMeth_ap, qM1_ap, gQ_ap, liftO_ok, liftO_ex, gQT_ap, liftT_ok, liftT_ex, gMove_mk, gFz_mk, gOp_ap, gOpK_ap, gUn_ap, gCB_ap, finG_ok, gNil_ap, gCons_ap, gConsK_ap, lNil_ap, lCons_ap, lConsK_ap, gTupL_ap, gLstL_ap, gSt_ap, gTV_ap, gNot_ap, gAnd_ap, gOr_ap, condG_y, condG_tf, condG_ft, gIf_ap, pickG_t, pickG_f, giSeq_ap, giRange_ap, ofOG_some, ofO_some, gCall_ap, gCallK_ap, afterG_rt, afterG_ex, gMake_ap, gMakeK_ap, makeG_rt, makeG_ex, gLm_ap, isLst_ap, gLmK_ap, pNm_ap, pNmK_some, fnF_ap, finF_rt, finF_nx, finF_ex, sSubL_ap, subK_ap, faQ_ap, faQK_some, startP, stS, stA, okA, takeH, evalA, exP, Ag.sl, putH, toB, toI, lenV_ap, lenN_l, lenN_t, addV_i, subV_i, mulV_i, fdivV_i, modV_i, ltV_i, leV_i, gtV_i, geV_i, negV_i, eqV_i, eqV_s, eqV_b, neV_i, neV_s, neV_b, addV_s, addV_l, addV_t, ixV_t, ixV_tk, ixV_l, ixV_s, at_0, at_1, at_2, at_3, ix_0, ix_1, ix_2, decide_true, decide_false, mkTup, mkLst, mkTupG, mkLstG, fAppend, fExtend, fInsert, fClear, fPop, fRev, mkLc, D.free, D.up, D.st, D.view, D.fz, D.mapF, D.mapFL, viewF, fzF, D.noOwn, D.noBor, D.kept, D.allF, D.allFL, ownF, borF, keepF, List.map_cons, List.map_nil, List.length_cons, List.length_nil, List.length_map, List.replicate, List.cons_append, List.nil_append, List.append_nil, List.getElem?_cons_zero, List.getElem?_cons_succ, List.getElem?_nil, List.set_cons_zero, List.set_cons_succ, List.set_nil, Option.bind_some, Option.bind_none, Option.map_some, Option.map_none, id, Nat.zero_add, Nat.reduceAdd, Nat.reduceSub, Nat.sub_self, Nat.sub_zero, if_true, if_false, Bool.false_eq_true, Bool.and_true, Bool.true_and, Bool.not_true, Bool.not_false, and_true, true_and, and_self, reduceCtorEq, ne_eq, not_false_eq_true, sz_le, sz_lt, Nat.reduceLeDiff, ints_all, strs_all, callQ_ap, callK_some, giveQ_nil, giveQ_r, giveQ_k, resQ_rt, resQ_ex, q_str, q_int, q_bl, q_non, q_tup, q_lst, q_dic, q_dit, q_obj, qChain_ap, lenN_s, listV_t, listV_l, listV_d, tupleV_l, lenN_d, ixV_d, slV_l, all_true, ints_mp, strs_mp, fldD_ap, sFldF_ap, rndK_nx, rndK_ct, rndK_bk, rndK_rt, rndK_ex, forV_cons, forV_nil, sForMv_ap, mvK_some, pFld_ap, pFldK_o, pIx_ap, pIxK_l, pIxK_t, pIxK_d, gLmP_ap, gLmPK_ok, gLmPK_ex, mqNil_ap, mqCons_ap, Function.comp_apply, Function.comp_id, Function.id_comp, neV_strs, decide_eq_false ha, decide_eq_false hb]
          simp [piece, ha, hb]
    rw [List.map_cons, forV_nx (ρ1 := ⟨[.val w, .val (.str z), .val (.lst .own (acc.map D.str)), .val (.str a), .val (.str b)], [none, none]⟩) rfl rd]
    have pl : (piece z [a, b]).length ≤ 1 := by
      by_cases ha : a = z
      · have hb : b ≠ z := fun e => ne (ha.trans e.symm)
        simp [piece, ha, hb]
      · by_cases hb : b = z <;> simp [piece, ha, hb]
    rw [near_loop ms _ (fun m hm => h m (by simp [hm])) (by simp at hl ⊢; omega)]
    simp [nearP]
theorem prs_ne {hs : List (Str × Int)} {ts : List (Str × Str)} (t : TOk hs ts) {m : List Str} (hm : m ∈ prs ts) : ∃ a b, m = [a, b] ∧ a ≠ b ∧ a ∈ hs.map (·.1) ∧ b ∈ hs.map (·.1) := by
  obtain ⟨x, mx, rfl⟩ := List.mem_map.mp (sortT_mem.mp hm)
  obtain ⟨a, b, e, a1, a2⟩ := prs_at t hm
  refine ⟨a, b, e, fun q => ?_, a1, a2⟩
  obtain ⟨_, _, h3⟩ := t.at' x mx
  obtain ⟨a', b', e', q'⟩ := srt_two x
  rw [e'] at e
  cases e
  subst q
  have := (q' x.1).mpr (.inl rfl)
  have := (q' x.2).mpr (.inr rfl)
  exact h3 (by grind)
theorem near_mem {hs : List (Str × Int)} {ts : List (Str × Str)} (t : TOk hs ts) {z x : Str} (h : x ∈ nearP z (prs ts)) : x ∈ hs.map (·.1) := by
  obtain ⟨m, hm, hx⟩ := List.mem_flatMap.mp h
  obtain ⟨a, b, rfl, _, h1, h2⟩ := prs_ne t hm
  simp only [piece, List.mem_append] at hx
  rcases hx with hx | hx
  · split at hx
    · have : x = b := by simpa using hx
      rw [this]; exact h2
    · cases hx
  · split at hx
    · have : x = a := by simpa using hx
      rw [this]; exact h1
    · cases hx
theorem f_neighbours {hs : List (Str × Int)} {ts : List (Str × Str)} {z : Str} (h : HOk hs) (t : TOk hs ts) (m : z ∈ hs.map (·.1)) : F_Web_neighbours K A [eW .bor A hs ts, .str z] = .rt (.lst .own ((sortS (nearP z (prs ts))).map D.str)) [none, none] := by
  have io : VL.isObj A.c_Web "check_hand" (eW .bor A hs ts) = true := by
    show (decide (A.c_Web = A.c_Web) && (decide (kS "strong" ≠ kS "check_hand") && (decide (kS "pairs" ≠ kS "check_hand") && true))) = true
    rw [decide_eq_true rfl, decide_eq_true (show kS "strong" ≠ kS "check_hand" by decide), decide_eq_true (show kS "pairs" ≠ kS "check_hand" by decide)]
    rfl
  have vw : D.mapFK viewF (webF .bor hs ts) = webF .bor hs ts := by
    simp only [webF, D.mapFK, D.mapF, viewF, eS_map, tupSs_map]
  have lp : (prs ts).length ≤ 1000 := by
    unfold prs; rw [sortT_length, List.length_map]; exact Nat.le_trans (Nat.le_of_lt t.few) (by decide)
  have loop := near_loop (K := K) (A := A) (w := eW .bor A hs ts) (z := z) (prs ts) [] (fun m hm => by obtain ⟨a, b, e, ne, _⟩ := prs_ne t hm; exact ⟨a, b, e, ne⟩) (by simpa using lp)
  have sv := sortV_strs (f := .own) (xs := nearP z (prs ts)) fun x hx => nm_ok (h.mem (near_mem t hx))
  unfold F_Web_neighbours
  simp -implicitDefEqProofs only [bind_ok, bind_ex, bind_no, pure_ok, pure_ex, pure_no, seqE_ok, seqE_ex, seqE_no, seqS_nx, seqS_rt, seqS_ex, seqS_bk, seqS_ct, seqS_no, sNext_ap, sBreak_ap, sCont_ap, sRetN_ap, sSeq_ap, sDrop_ap, sRet_ap, sSet_ap, sIf_ap, condS_t, condS_f, sKillO_ap, killO_nx, killO_bk, killO_ct, killO_rt, killO_ex, kill_cons, kill_nil, sAsg_ap, asgK_ap, sRaise_ap, sFor_ap, forK_ap, setS_mk, setA_mk, look_mk, lookS_val, lookS_arg, qV_ap, oD_some, lc_mk, lcS_val, lcS_arg, get_s, get_a, rm_s, rm_a, put_s, put_a, view_mk, Sl.view_val, Sl.view_arg, Sl.view_no, wipe_nil, wipe_cons, qC_ap, qOp_ap, qUn_ap, qCB_ap, aNil_ap, aCons_ap, tV_ap, tNot_ap, tAnd_ap, tOr_ap, condT_y, condT_tf, condT_ft, tYes_ap, qNot_ap, qAnd_ap, qOr_ap, condQ_y, condQ_tf, condQ_ft, qIf_ap, pickQ_t, pickQ_f, qTup_ap, qLst_ap, qFld_ap, oNone_ap, oSome_ap, qSl_ap, qLc_ap, iSeq_ap, iRange_ap, qCall_ap, qMeth_ap, qM1_ap, gQ_ap, liftO_ok, liftO_ex, gQT_ap, liftT_ok, liftT_ex, gMove_mk, gFz_mk, gOp_ap, gOpK_ap, gUn_ap, gCB_ap, finG_ok, gNil_ap, gCons_ap, gConsK_ap, lNil_ap, lCons_ap, lConsK_ap, gTupL_ap, gLstL_ap, gSt_ap, gTV_ap, gNot_ap, gAnd_ap, gOr_ap, condG_y, condG_tf, condG_ft, gIf_ap, pickG_t, pickG_f, giSeq_ap, giRange_ap, ofOG_some, ofO_some, gCall_ap, gCallK_ap, afterG_rt, afterG_ex, gMake_ap, gMakeK_ap, makeG_rt, makeG_ex, gLm_ap, isLst_ap, gLmK_ap, pNm_ap, pNmK_some, fnF_ap, finF_rt, finF_nx, finF_ex, sSubL_ap, subK_ap, faQ_ap, faQK_some, startP, stS, stA, okA, takeH, evalA, exP, Ag.sl, putH, toB, toI, lenV_ap, lenN_l, lenN_t, addV_i, subV_i, mulV_i, fdivV_i, modV_i, ltV_i, leV_i, gtV_i, geV_i, negV_i, eqV_i, eqV_s, eqV_b, neV_i, neV_s, neV_b, addV_s, addV_l, addV_t, ixV_t, ixV_tk, ixV_l, ixV_s, at_0, at_1, at_2, at_3, ix_0, ix_1, ix_2, decide_true, decide_false, mkTup, mkLst, mkTupG, mkLstG, fAppend, fExtend, fInsert, fClear, fPop, fRev, mkLc, D.free, D.up, D.st, D.view, D.fz, D.mapF, D.mapFL, viewF, fzF, D.noOwn, D.noBor, D.kept, D.allF, D.allFL, ownF, borF, keepF, List.map_cons, List.map_nil, List.length_cons, List.length_nil, List.length_map, List.replicate, List.cons_append, List.nil_append, List.append_nil, List.getElem?_cons_zero, List.getElem?_cons_succ, List.getElem?_nil, List.set_cons_zero, List.set_cons_succ, List.set_nil, Option.bind_some, Option.bind_none, Option.map_some, Option.map_none, id, Nat.zero_add, Nat.reduceAdd, Nat.reduceSub, Nat.sub_self, Nat.sub_zero, if_true, if_false, Bool.false_eq_true, Bool.and_true, Bool.true_and, Bool.not_true, Bool.not_false, and_true, true_and, and_self, reduceCtorEq, ne_eq, not_false_eq_true, sz_le, sz_lt, Nat.reduceLeDiff, ints_all, strs_all, callQ_ap, callK_some, giveQ_nil, giveQ_r, giveQ_k, resQ_rt, resQ_ex, q_str, q_int, q_bl, q_non, q_tup, q_lst, q_dic, q_dit, q_obj, qChain_ap, lenN_s, listV_t, listV_l, listV_d, tupleV_l, lenN_d, ixV_d, slV_l, all_true, ints_mp, strs_mp, fldD_ap, sFldF_ap, rndK_nx, rndK_ct, rndK_bk, rndK_rt, rndK_ex, forV_cons, forV_nil, sForMv_ap, mvK_some, pFld_ap, pFldK_o, pIx_ap, pIxK_l, pIxK_t, pIxK_d, gLmP_ap, gLmPK_ok, gLmPK_ex, mqNil_ap, mqCons_ap, Function.comp_apply, Function.comp_id, Function.id_comp, neV_strs, io, vw, f_check_hand m, fldD_ap, gP, itemsD, tupSs_all, tupSs_map]
  rw [show (D.lst Fl.own []) = .lst .own (([] : List Str).map D.str) from rfl, loop]
  simp -implicitDefEqProofs only [bind_ok, bind_ex, bind_no, pure_ok, pure_ex, pure_no, seqE_ok, seqE_ex, seqE_no, seqS_nx, seqS_rt, seqS_ex, seqS_bk, seqS_ct, seqS_no, sNext_ap, sBreak_ap, sCont_ap, sRetN_ap, sSeq_ap, sDrop_ap, sRet_ap, sSet_ap, sIf_ap, condS_t, condS_f, sKillO_ap, killO_nx, killO_bk, killO_ct, killO_rt, killO_ex, kill_cons, kill_nil, sAsg_ap, asgK_ap, sRaise_ap, sFor_ap, forK_ap, setS_mk, setA_mk, look_mk, lookS_val, lookS_arg, qV_ap, oD_some, lc_mk, lcS_val, lcS_arg, get_s, get_a, rm_s, rm_a, put_s, put_a, view_mk, Sl.view_val, Sl.view_arg, Sl.view_no, wipe_nil, wipe_cons, qC_ap, qOp_ap, qUn_ap, qCB_ap, aNil_ap, aCons_ap, tV_ap, tNot_ap, tAnd_ap, tOr_ap, condT_y, condT_tf, condT_ft, tYes_ap, qNot_ap, qAnd_ap, qOr_ap, condQ_y, condQ_tf, condQ_ft, qIf_ap, pickQ_t, pickQ_f, qTup_ap, qLst_ap, qFld_ap, oNone_ap, oSome_ap, qSl_ap, qLc_ap, iSeq_ap, iRange_ap, qCall_ap, qMeth_ap, qM1_ap, gQ_ap, liftO_ok, liftO_ex, gQT_ap, liftT_ok, liftT_ex, gMove_mk, gFz_mk, gOp_ap, gOpK_ap, gUn_ap, gCB_ap, finG_ok, gNil_ap, gCons_ap, gConsK_ap, lNil_ap, lCons_ap, lConsK_ap, gTupL_ap, gLstL_ap, gSt_ap, gTV_ap, gNot_ap, gAnd_ap, gOr_ap, condG_y, condG_tf, condG_ft, gIf_ap, pickG_t, pickG_f, giSeq_ap, giRange_ap, ofOG_some, ofO_some, gCall_ap, gCallK_ap, afterG_rt, afterG_ex, gMake_ap, gMakeK_ap, makeG_rt, makeG_ex, gLm_ap, isLst_ap, gLmK_ap, pNm_ap, pNmK_some, fnF_ap, finF_rt, finF_nx, finF_ex, sSubL_ap, subK_ap, faQ_ap, faQK_some, startP, stS, stA, okA, takeH, evalA, exP, Ag.sl, putH, toB, toI, lenV_ap, lenN_l, lenN_t, addV_i, subV_i, mulV_i, fdivV_i, modV_i, ltV_i, leV_i, gtV_i, geV_i, negV_i, eqV_i, eqV_s, eqV_b, neV_i, neV_s, neV_b, addV_s, addV_l, addV_t, ixV_t, ixV_tk, ixV_l, ixV_s, at_0, at_1, at_2, at_3, ix_0, ix_1, ix_2, decide_true, decide_false, mkTup, mkLst, mkTupG, mkLstG, fAppend, fExtend, fInsert, fClear, fPop, fRev, mkLc, D.free, D.up, D.st, D.view, D.fz, D.mapF, D.mapFL, viewF, fzF, D.noOwn, D.noBor, D.kept, D.allF, D.allFL, ownF, borF, keepF, List.map_cons, List.map_nil, List.length_cons, List.length_nil, List.length_map, List.replicate, List.cons_append, List.nil_append, List.append_nil, List.getElem?_cons_zero, List.getElem?_cons_succ, List.getElem?_nil, List.set_cons_zero, List.set_cons_succ, List.set_nil, Option.bind_some, Option.bind_none, Option.map_some, Option.map_none, id, Nat.zero_add, Nat.reduceAdd, Nat.reduceSub, Nat.sub_self, Nat.sub_zero, if_true, if_false, Bool.false_eq_true, Bool.and_true, Bool.true_and, Bool.not_true, Bool.not_false, and_true, true_and, and_self, reduceCtorEq, ne_eq, not_false_eq_true, sz_le, sz_lt, Nat.reduceLeDiff, ints_all, strs_all, callQ_ap, callK_some, giveQ_nil, giveQ_r, giveQ_k, resQ_rt, resQ_ex, q_str, q_int, q_bl, q_non, q_tup, q_lst, q_dic, q_dit, q_obj, qChain_ap, lenN_s, listV_t, listV_l, listV_d, tupleV_l, lenN_d, ixV_d, slV_l, all_true, ints_mp, strs_mp, fldD_ap, sFldF_ap, rndK_nx, rndK_ct, rndK_bk, rndK_rt, rndK_ex, forV_cons, forV_nil, sForMv_ap, mvK_some, pFld_ap, pFldK_o, pIx_ap, pIxK_l, pIxK_t, pIxK_d, gLmP_ap, gLmPK_ok, gLmPK_ex, mqNil_ap, mqCons_ap, Function.comp_apply, Function.comp_id, Function.id_comp, neV_strs, sv]
theorem inU_tups {f : Fl} {m : List Str} {ms : List (List Str)} (h : ∀ w ∈ m, PyData.strOk w = true) (h2 : ∀ n ∈ ms, ∀ w ∈ n, PyData.strOk w = true) : inU (tupS m) (.lst f (ms.map tupS)) = .ok (.bl (decide (m ∈ ms))) := by
  have k1 : D.ok 64 (tupS m) = true := by
    have := okL_tups (n := 63) (ms := [m]) (by intro n hn; have : n = m := by simpa using hn
                                               subst this; exact h)
    simpa [D.okL] using this
  have k2 : D.okL 63 (ms.map tupS) = true := okL_tups (n := 62) h2
  unfold inU inB
  have fl : flatD (tupS m) = none := rfl
  simp only [fl]
  rw [if_pos ⟨k1, k2⟩, any_tupS]
  rfl
theorem prs_ok {hs : List (Str × Int)} {ts : List (Str × Str)} (h : HOk hs) (t : TOk hs ts) : ∀ n ∈ prs ts, ∀ w ∈ n, PyData.strOk w = true := fun n hn w hw => by
  obtain ⟨a, b, rfl, h1, h2⟩ := prs_at t hn
  have : w = a ∨ w = b := by simpa using hw
  rcases this with rfl | rfl
  · exact nm_ok (h.mem h1)
  · exact nm_ok (h.mem h2)
theorem srt_ok {x y : Str} (hx : PyData.strOk x = true) (hy : PyData.strOk y = true) : ∀ w ∈ sortS [x, y], PyData.strOk w = true := fun w hw => by
  have : w ∈ [x, y] := sortS_mem.mp hw
  have : w = x ∨ w = y := by simpa using this
  rcases this with rfl | rfl <;> assumption
theorem f_are_tied {hs : List (Str × Int)} {ts : List (Str × Str)} {x y : Str} (h : HOk hs) (t : TOk hs ts) (hx : x ∈ hs.map (·.1)) (hy : y ∈ hs.map (·.1)) : F_Web_are_tied K A [eW .bor A hs ts, .str x, .str y] = .rt (.bl (!decide (x = y) && decide (srt (x, y) ∈ prs ts))) [none, none, none] := by
  have nx := h.mem hx
  have ny := h.mem hy
  have iu := inU_tups (f := .bor) (srt_ok (nm_ok nx) (nm_ok ny)) (prs_ok h t)
  unfold F_Web_are_tied
  by_cases e : x = y
  · subst e
    simp -implicitDefEqProofs only [bind_ok, bind_ex, bind_no, pure_ok, pure_ex, pure_no, seqE_ok, seqE_ex, seqE_no, seqS_nx, seqS_rt, seqS_ex, seqS_bk, seqS_ct, seqS_no, sNext_ap, sBreak_ap, sCont_ap, sRetN_ap, sSeq_ap, sDrop_ap, sRet_ap, sSet_ap, sIf_ap, condS_t, condS_f, sKillO_ap, killO_nx, killO_bk, killO_ct, killO_rt, killO_ex, kill_cons, kill_nil, sAsg_ap, asgK_ap, sRaise_ap, sFor_ap, forK_ap, setS_mk, setA_mk, look_mk, lookS_val, lookS_arg, qV_ap, oD_some, lc_mk, lcS_val, lcS_arg, get_s, get_a, rm_s, rm_a, put_s, put_a, view_mk, Sl.view_val, Sl.view_arg, Sl.view_no, wipe_nil, wipe_cons, qC_ap, qOp_ap, qUn_ap, qCB_ap, aNil_ap, aCons_ap, tV_ap, tNot_ap, tAnd_ap, tOr_ap, condT_y, condT_tf, condT_ft, tYes_ap, qNot_ap, qAnd_ap, qOr_ap, condQ_y, condQ_tf, condQ_ft, qIf_ap, pickQ_t, pickQ_f, qTup_ap, qLst_ap, qFld_ap, oNone_ap, oSome_ap, qSl_ap, qLc_ap, iSeq_ap, iRange_ap, qCall_ap, qMeth_ap, qM1_ap, gQ_ap, liftO_ok, liftO_ex, gQT_ap, liftT_ok, liftT_ex, gMove_mk, gFz_mk, gOp_ap, gOpK_ap, gUn_ap, gCB_ap, finG_ok, gNil_ap, gCons_ap, gConsK_ap, lNil_ap, lCons_ap, lConsK_ap, gTupL_ap, gLstL_ap, gSt_ap, gTV_ap, gNot_ap, gAnd_ap, gOr_ap, condG_y, condG_tf, condG_ft, gIf_ap, pickG_t, pickG_f, giSeq_ap, giRange_ap, ofOG_some, ofO_some, gCall_ap, gCallK_ap, afterG_rt, afterG_ex, gMake_ap, gMakeK_ap, makeG_rt, makeG_ex, gLm_ap, isLst_ap, gLmK_ap, pNm_ap, pNmK_some, fnF_ap, finF_rt, finF_nx, finF_ex, sSubL_ap, subK_ap, faQ_ap, faQK_some, startP, stS, stA, okA, takeH, evalA, exP, Ag.sl, putH, toB, toI, lenV_ap, lenN_l, lenN_t, addV_i, subV_i, mulV_i, fdivV_i, modV_i, ltV_i, leV_i, gtV_i, geV_i, negV_i, eqV_i, eqV_s, eqV_b, neV_i, neV_s, neV_b, addV_s, addV_l, addV_t, ixV_t, ixV_tk, ixV_l, ixV_s, at_0, at_1, at_2, at_3, ix_0, ix_1, ix_2, decide_true, decide_false, mkTup, mkLst, mkTupG, mkLstG, fAppend, fExtend, fInsert, fClear, fPop, fRev, mkLc, D.free, D.up, D.st, D.view, D.fz, D.mapF, D.mapFL, viewF, fzF, D.noOwn, D.noBor, D.kept, D.allF, D.allFL, ownF, borF, keepF, List.map_cons, List.map_nil, List.length_cons, List.length_nil, List.length_map, List.replicate, List.cons_append, List.nil_append, List.append_nil, List.getElem?_cons_zero, List.getElem?_cons_succ, List.getElem?_nil, List.set_cons_zero, List.set_cons_succ, List.set_nil, Option.bind_some, Option.bind_none, Option.map_some, Option.map_none, id, Nat.zero_add, Nat.reduceAdd, Nat.reduceSub, Nat.sub_self, Nat.sub_zero, if_true, if_false, Bool.false_eq_true, Bool.and_true, Bool.true_and, Bool.not_true, Bool.not_false, and_true, true_and, and_self, reduceCtorEq, ne_eq, not_false_eq_true, sz_le, sz_lt, Nat.reduceLeDiff, ints_all, strs_all, callQ_ap, callK_some, giveQ_nil, giveQ_r, giveQ_k, resQ_rt, resQ_ex, q_str, q_int, q_bl, q_non, q_tup, q_lst, q_dic, q_dit, q_obj, qChain_ap, lenN_s, listV_t, listV_l, listV_d, tupleV_l, lenN_d, ixV_d, slV_l, all_true, ints_mp, strs_mp, fldD_ap, sFldF_ap, rndK_nx, rndK_ct, rndK_bk, rndK_rt, rndK_ex, forV_cons, forV_nil, sForMv_ap, mvK_some, pFld_ap, pFldK_o, pIx_ap, pIxK_l, pIxK_t, pIxK_d, gLmP_ap, gLmPK_ok, gLmPK_ex, mqNil_ap, mqCons_ap, Function.comp_apply, Function.comp_id, Function.id_comp, neV_strs, f_is_pair nx ny]
    simp
  · simp -implicitDefEqProofs only [bind_ok, bind_ex, bind_no, pure_ok, pure_ex, pure_no, seqE_ok, seqE_ex, seqE_no, seqS_nx, seqS_rt, seqS_ex, seqS_bk, seqS_ct, seqS_no, sNext_ap, sBreak_ap, sCont_ap, sRetN_ap, sSeq_ap, sDrop_ap, sRet_ap, sSet_ap, sIf_ap, condS_t, condS_f, sKillO_ap, killO_nx, killO_bk, killO_ct, killO_rt, killO_ex, kill_cons, kill_nil, sAsg_ap, asgK_ap, sRaise_ap, sFor_ap, forK_ap, setS_mk, setA_mk, look_mk, lookS_val, lookS_arg, qV_ap, oD_some, lc_mk, lcS_val, lcS_arg, get_s, get_a, rm_s, rm_a, put_s, put_a, view_mk, Sl.view_val, Sl.view_arg, Sl.view_no, wipe_nil, wipe_cons, qC_ap, qOp_ap, qUn_ap, qCB_ap, aNil_ap, aCons_ap, tV_ap, tNot_ap, tAnd_ap, tOr_ap, condT_y, condT_tf, condT_ft, tYes_ap, qNot_ap, qAnd_ap, qOr_ap, condQ_y, condQ_tf, condQ_ft, qIf_ap, pickQ_t, pickQ_f, qTup_ap, qLst_ap, qFld_ap, oNone_ap, oSome_ap, qSl_ap, qLc_ap, iSeq_ap, iRange_ap, qCall_ap, qMeth_ap, qM1_ap, gQ_ap, liftO_ok, liftO_ex, gQT_ap, liftT_ok, liftT_ex, gMove_mk, gFz_mk, gOp_ap, gOpK_ap, gUn_ap, gCB_ap, finG_ok, gNil_ap, gCons_ap, gConsK_ap, lNil_ap, lCons_ap, lConsK_ap, gTupL_ap, gLstL_ap, gSt_ap, gTV_ap, gNot_ap, gAnd_ap, gOr_ap, condG_y, condG_tf, condG_ft, gIf_ap, pickG_t, pickG_f, giSeq_ap, giRange_ap, ofOG_some, ofO_some, gCall_ap, gCallK_ap, afterG_rt, afterG_ex, gMake_ap, gMakeK_ap, makeG_rt, makeG_ex, gLm_ap, isLst_ap, gLmK_ap, pNm_ap, pNmK_some, fnF_ap, finF_rt, finF_nx, finF_ex, sSubL_ap, subK_ap, faQ_ap, faQK_some, startP, stS, stA, okA, takeH, evalA, exP, Ag.sl, putH, toB, toI, lenV_ap, lenN_l, lenN_t, addV_i, subV_i, mulV_i, fdivV_i, modV_i, ltV_i, leV_i, gtV_i, geV_i, negV_i, eqV_i, eqV_s, eqV_b, neV_i, neV_s, neV_b, addV_s, addV_l, addV_t, ixV_t, ixV_tk, ixV_l, ixV_s, at_0, at_1, at_2, at_3, ix_0, ix_1, ix_2, decide_true, decide_false, mkTup, mkLst, mkTupG, mkLstG, fAppend, fExtend, fInsert, fClear, fPop, fRev, mkLc, D.free, D.up, D.st, D.view, D.fz, D.mapF, D.mapFL, viewF, fzF, D.noOwn, D.noBor, D.kept, D.allF, D.allFL, ownF, borF, keepF, List.map_cons, List.map_nil, List.length_cons, List.length_nil, List.length_map, List.replicate, List.cons_append, List.nil_append, List.append_nil, List.getElem?_cons_zero, List.getElem?_cons_succ, List.getElem?_nil, List.set_cons_zero, List.set_cons_succ, List.set_nil, Option.bind_some, Option.bind_none, Option.map_some, Option.map_none, id, Nat.zero_add, Nat.reduceAdd, Nat.reduceSub, Nat.sub_self, Nat.sub_zero, if_true, if_false, Bool.false_eq_true, Bool.and_true, Bool.true_and, Bool.not_true, Bool.not_false, and_true, true_and, and_self, reduceCtorEq, ne_eq, not_false_eq_true, sz_le, sz_lt, Nat.reduceLeDiff, ints_all, strs_all, callQ_ap, callK_some, giveQ_nil, giveQ_r, giveQ_k, resQ_rt, resQ_ex, q_str, q_int, q_bl, q_non, q_tup, q_lst, q_dic, q_dit, q_obj, qChain_ap, lenN_s, listV_t, listV_l, listV_d, tupleV_l, lenN_d, ixV_d, slV_l, all_true, ints_mp, strs_mp, fldD_ap, sFldF_ap, rndK_nx, rndK_ct, rndK_bk, rndK_rt, rndK_ex, forV_cons, forV_nil, sForMv_ap, mvK_some, pFld_ap, pFldK_o, pIx_ap, pIxK_l, pIxK_t, pIxK_d, gLmP_ap, gLmPK_ok, gLmPK_ex, mqNil_ap, mqCons_ap, Function.comp_apply, Function.comp_id, Function.id_comp, neV_strs, f_is_pair nx ny, decide_eq_false e, f_sorted_pair (nm_ok nx) (nm_ok ny), tupS_q, fldD_ap, gP, iu]
    rfl
theorem web_view {hs : List (Str × Int)} {ts : List (Str × Str)} {f : Fl} (hf : viewF f = .bor) : D.mapFK viewF (webF f hs ts) = webF .bor hs ts := by
  simp only [webF, D.mapFK, D.mapF, hf, eS_map, tupSs_map]
theorem f_most {hs : List (Str × Int)} {ts : List (Str × Str)} (h : HOk hs) (t : TOk hs ts) (h1 : 1 ≤ hs.length) (h8 : hs.length ≤ 8) : F_Web_most_neighbours K A [eW .bor A hs ts] = .rt (.int (maxI ((hs.map (·.1)).map fun z => ((nearP z (prs ts)).length : Int)))) [none] := by
  have io : VL.isObj A.c_Web "neighbours" (eW .bor A hs ts) = true := by
    show (decide (A.c_Web = A.c_Web) && (decide (kS "strong" ≠ kS "neighbours") && (decide (kS "pairs" ≠ kS "neighbours") && true))) = true
    rw [decide_eq_true rfl, decide_eq_true (show kS "strong" ≠ kS "neighbours" by decide), decide_eq_true (show kS "pairs" ≠ kS "neighbours" by decide)]
    rfl
  have e : ((eS hs).map fun e => kdD e.1) = (hs.map (·.1)).map D.str := by rw [List.map_map, List.map_map]; rfl
  have cv : compV (.nm 1) tYes (qCB lenV (aCons (qMeth A.c_Web "neighbours" [.r, .r] (F_Web_neighbours K A) (qV 0) (aCons (qV 1) aNil)) aNil)) ⟨[.val (eW .bor A hs ts), .no], [none]⟩ ((hs.map (·.1)).map D.str) = .ok (((hs.map (·.1)).map fun z => ((nearP z (prs ts)).length : Int)).map D.int) := by
    rw [List.map_map (f := fun z => ((nearP z (prs ts)).length : Int)) (g := D.int)]
    refine compV_map _ fun z m => ⟨_, put_nm, rfl, ?_, rfl, rfl⟩
    simp -implicitDefEqProofs only [bind_ok, bind_ex, bind_no, pure_ok, pure_ex, pure_no, seqE_ok, seqE_ex, seqE_no, seqS_nx, seqS_rt, seqS_ex, seqS_bk, seqS_ct, seqS_no, sNext_ap, sBreak_ap, sCont_ap, sRetN_ap, sSeq_ap, sDrop_ap, sRet_ap, sSet_ap, sIf_ap, condS_t, condS_f, sKillO_ap, killO_nx, killO_bk, killO_ct, killO_rt, killO_ex, kill_cons, kill_nil, sAsg_ap, asgK_ap, sRaise_ap, sFor_ap, forK_ap, setS_mk, setA_mk, look_mk, lookS_val, lookS_arg, qV_ap, oD_some, lc_mk, lcS_val, lcS_arg, get_s, get_a, rm_s, rm_a, put_s, put_a, view_mk, Sl.view_val, Sl.view_arg, Sl.view_no, wipe_nil, wipe_cons, qC_ap, qOp_ap, qUn_ap, qCB_ap, aNil_ap, aCons_ap, tV_ap, tNot_ap, tAnd_ap, tOr_ap, condT_y, condT_tf, condT_ft, tYes_ap, qNot_ap, qAnd_ap, qOr_ap, condQ_y, condQ_tf, condQ_ft, qIf_ap, pickQ_t, pickQ_f, qTup_ap, qLst_ap, qFld_ap, oNone_ap, oSome_ap, qSl_ap, qLc_ap, iSeq_ap, iRange_ap, qCall_ap, qMeth_ap, qM1_ap, gQ_ap, liftO_ok, liftO_ex, gQT_ap, liftT_ok, liftT_ex, gMove_mk, gFz_mk, gOp_ap, gOpK_ap, gUn_ap, gCB_ap, finG_ok, gNil_ap, gCons_ap, gConsK_ap, lNil_ap, lCons_ap, lConsK_ap, gTupL_ap, gLstL_ap, gSt_ap, gTV_ap, gNot_ap, gAnd_ap, gOr_ap, condG_y, condG_tf, condG_ft, gIf_ap, pickG_t, pickG_f, giSeq_ap, giRange_ap, ofOG_some, ofO_some, gCall_ap, gCallK_ap, afterG_rt, afterG_ex, gMake_ap, gMakeK_ap, makeG_rt, makeG_ex, gLm_ap, isLst_ap, gLmK_ap, pNm_ap, pNmK_some, fnF_ap, finF_rt, finF_nx, finF_ex, sSubL_ap, subK_ap, faQ_ap, faQK_some, startP, stS, stA, okA, takeH, evalA, exP, Ag.sl, putH, toB, toI, lenV_ap, lenN_l, lenN_t, addV_i, subV_i, mulV_i, fdivV_i, modV_i, ltV_i, leV_i, gtV_i, geV_i, negV_i, eqV_i, eqV_s, eqV_b, neV_i, neV_s, neV_b, addV_s, addV_l, addV_t, ixV_t, ixV_tk, ixV_l, ixV_s, at_0, at_1, at_2, at_3, ix_0, ix_1, ix_2, decide_true, decide_false, mkTup, mkLst, mkTupG, mkLstG, fAppend, fExtend, fInsert, fClear, fPop, fRev, mkLc, D.free, D.up, D.st, D.view, D.fz, D.mapF, D.mapFL, viewF, fzF, D.noOwn, D.noBor, D.kept, D.allF, D.allFL, ownF, borF, keepF, List.map_cons, List.map_nil, List.length_cons, List.length_nil, List.length_map, List.replicate, List.cons_append, List.nil_append, List.append_nil, List.getElem?_cons_zero, List.getElem?_cons_succ, List.getElem?_nil, List.set_cons_zero, List.set_cons_succ, List.set_nil, Option.bind_some, Option.bind_none, Option.map_some, Option.map_none, id, Nat.zero_add, Nat.reduceAdd, Nat.reduceSub, Nat.sub_self, Nat.sub_zero, if_true, if_false, Bool.false_eq_true, Bool.and_true, Bool.true_and, Bool.not_true, Bool.not_false, and_true, true_and, and_self, reduceCtorEq, ne_eq, not_false_eq_true, sz_le, sz_lt, Nat.reduceLeDiff, ints_all, strs_all, callQ_ap, callK_some, giveQ_nil, giveQ_r, giveQ_k, resQ_rt, resQ_ex, q_str, q_int, q_bl, q_non, q_tup, q_lst, q_dic, q_dit, q_obj, qChain_ap, lenN_s, listV_t, listV_l, listV_d, tupleV_l, lenN_d, ixV_d, slV_l, all_true, ints_mp, strs_mp, fldD_ap, sFldF_ap, rndK_nx, rndK_ct, rndK_bk, rndK_rt, rndK_ex, forV_cons, forV_nil, sForMv_ap, mvK_some, pFld_ap, pFldK_o, pIx_ap, pIxK_l, pIxK_t, pIxK_d, gLmP_ap, gLmPK_ok, gLmPK_ex, mqNil_ap, mqCons_ap, Function.comp_apply, Function.comp_id, Function.id_comp, neV_strs, io, web_view (f := .bor) rfl, f_neighbours h t m, strs_mp, sortS_length]
  have z1 : hs.length ≤ sizeLine := Nat.le_trans h8 (by decide)
  have ne : ((hs.map (·.1)).map fun z => ((nearP z (prs ts)).length : Int)) ≠ [] := by
    intro q
    have := congrArg List.length q
    simp at this
    subst this
    simp at h1
  have qk : qLcK (qFld A.c_Web "strong" (qV 0)) (.nm 1) tYes (qCB lenV (aCons (qMeth A.c_Web "neighbours" [.r, .r] (F_Web_neighbours K A) (qV 0) (aCons (qV 1) aNil)) aNil)) [1] ⟨[.val (eW .bor A hs ts), .no], [none]⟩ = .ok (.lst .new (((hs.map (·.1)).map fun z => ((nearP z (prs ts)).length : Int)).map D.int)) := by
    unfold qLcK
    have ef : qFld A.c_Web "strong" (qV 0) ⟨[.val (eW .bor A hs ts), .no], [none]⟩ = .ok (.dic .bor (eS hs)) := by simp -implicitDefEqProofs only [bind_ok, bind_ex, bind_no, pure_ok, pure_ex, pure_no, seqE_ok, seqE_ex, seqE_no, seqS_nx, seqS_rt, seqS_ex, seqS_bk, seqS_ct, seqS_no, sNext_ap, sBreak_ap, sCont_ap, sRetN_ap, sSeq_ap, sDrop_ap, sRet_ap, sSet_ap, sIf_ap, condS_t, condS_f, sKillO_ap, killO_nx, killO_bk, killO_ct, killO_rt, killO_ex, kill_cons, kill_nil, sAsg_ap, asgK_ap, sRaise_ap, sFor_ap, forK_ap, setS_mk, setA_mk, look_mk, lookS_val, lookS_arg, qV_ap, oD_some, lc_mk, lcS_val, lcS_arg, get_s, get_a, rm_s, rm_a, put_s, put_a, view_mk, Sl.view_val, Sl.view_arg, Sl.view_no, wipe_nil, wipe_cons, qC_ap, qOp_ap, qUn_ap, qCB_ap, aNil_ap, aCons_ap, tV_ap, tNot_ap, tAnd_ap, tOr_ap, condT_y, condT_tf, condT_ft, tYes_ap, qNot_ap, qAnd_ap, qOr_ap, condQ_y, condQ_tf, condQ_ft, qIf_ap, pickQ_t, pickQ_f, qTup_ap, qLst_ap, qFld_ap, oNone_ap, oSome_ap, qSl_ap, qLc_ap, iSeq_ap, iRange_ap, qCall_ap, qMeth_ap, qM1_ap, gQ_ap, liftO_ok, liftO_ex, gQT_ap, liftT_ok, liftT_ex, gMove_mk, gFz_mk, gOp_ap, gOpK_ap, gUn_ap, gCB_ap, finG_ok, gNil_ap, gCons_ap, gConsK_ap, lNil_ap, lCons_ap, lConsK_ap, gTupL_ap, gLstL_ap, gSt_ap, gTV_ap, gNot_ap, gAnd_ap, gOr_ap, condG_y, condG_tf, condG_ft, gIf_ap, pickG_t, pickG_f, giSeq_ap, giRange_ap, ofOG_some, ofO_some, gCall_ap, gCallK_ap, afterG_rt, afterG_ex, gMake_ap, gMakeK_ap, makeG_rt, makeG_ex, gLm_ap, isLst_ap, gLmK_ap, pNm_ap, pNmK_some, fnF_ap, finF_rt, finF_nx, finF_ex, sSubL_ap, subK_ap, faQ_ap, faQK_some, startP, stS, stA, okA, takeH, evalA, exP, Ag.sl, putH, toB, toI, lenV_ap, lenN_l, lenN_t, addV_i, subV_i, mulV_i, fdivV_i, modV_i, ltV_i, leV_i, gtV_i, geV_i, negV_i, eqV_i, eqV_s, eqV_b, neV_i, neV_s, neV_b, addV_s, addV_l, addV_t, ixV_t, ixV_tk, ixV_l, ixV_s, at_0, at_1, at_2, at_3, ix_0, ix_1, ix_2, decide_true, decide_false, mkTup, mkLst, mkTupG, mkLstG, fAppend, fExtend, fInsert, fClear, fPop, fRev, mkLc, D.free, D.up, D.st, D.view, D.fz, D.mapF, D.mapFL, viewF, fzF, D.noOwn, D.noBor, D.kept, D.allF, D.allFL, ownF, borF, keepF, List.map_cons, List.map_nil, List.length_cons, List.length_nil, List.length_map, List.replicate, List.cons_append, List.nil_append, List.append_nil, List.getElem?_cons_zero, List.getElem?_cons_succ, List.getElem?_nil, List.set_cons_zero, List.set_cons_succ, List.set_nil, Option.bind_some, Option.bind_none, Option.map_some, Option.map_none, id, Nat.zero_add, Nat.reduceAdd, Nat.reduceSub, Nat.sub_self, Nat.sub_zero, if_true, if_false, Bool.false_eq_true, Bool.and_true, Bool.true_and, Bool.not_true, Bool.not_false, and_true, true_and, and_self, reduceCtorEq, ne_eq, not_false_eq_true, sz_le, sz_lt, Nat.reduceLeDiff, ints_all, strs_all, callQ_ap, callK_some, giveQ_nil, giveQ_r, giveQ_k, resQ_rt, resQ_ex, q_str, q_int, q_bl, q_non, q_tup, q_lst, q_dic, q_dit, q_obj, qChain_ap, lenN_s, listV_t, listV_l, listV_d, tupleV_l, lenN_d, ixV_d, slV_l, all_true, ints_mp, strs_mp, fldD_ap, sFldF_ap, rndK_nx, rndK_ct, rndK_bk, rndK_rt, rndK_ex, forV_cons, forV_nil, sForMv_ap, mvK_some, pFld_ap, pFldK_o, pIx_ap, pIxK_l, pIxK_t, pIxK_d, gLmP_ap, gLmPK_ok, gLmPK_ex, mqNil_ap, mqCons_ap, Function.comp_apply, Function.comp_id, Function.id_comp, neV_strs, fldD_ap, gS]
    rw [ef]
    simp only [e]
    simp -implicitDefEqProofs only [bind_ok, bind_ex, bind_no, pure_ok, pure_ex, pure_no, seqE_ok, seqE_ex, seqE_no, seqS_nx, seqS_rt, seqS_ex, seqS_bk, seqS_ct, seqS_no, sNext_ap, sBreak_ap, sCont_ap, sRetN_ap, sSeq_ap, sDrop_ap, sRet_ap, sSet_ap, sIf_ap, condS_t, condS_f, sKillO_ap, killO_nx, killO_bk, killO_ct, killO_rt, killO_ex, kill_cons, kill_nil, sAsg_ap, asgK_ap, sRaise_ap, sFor_ap, forK_ap, setS_mk, setA_mk, look_mk, lookS_val, lookS_arg, qV_ap, oD_some, lc_mk, lcS_val, lcS_arg, get_s, get_a, rm_s, rm_a, put_s, put_a, view_mk, Sl.view_val, Sl.view_arg, Sl.view_no, wipe_nil, wipe_cons, qC_ap, qOp_ap, qUn_ap, qCB_ap, aNil_ap, aCons_ap, tV_ap, tNot_ap, tAnd_ap, tOr_ap, condT_y, condT_tf, condT_ft, tYes_ap, qNot_ap, qAnd_ap, qOr_ap, condQ_y, condQ_tf, condQ_ft, qIf_ap, pickQ_t, pickQ_f, qTup_ap, qLst_ap, qFld_ap, oNone_ap, oSome_ap, qSl_ap, qLc_ap, iSeq_ap, iRange_ap, qCall_ap, qMeth_ap, qM1_ap, gQ_ap, liftO_ok, liftO_ex, gQT_ap, liftT_ok, liftT_ex, gMove_mk, gFz_mk, gOp_ap, gOpK_ap, gUn_ap, gCB_ap, finG_ok, gNil_ap, gCons_ap, gConsK_ap, lNil_ap, lCons_ap, lConsK_ap, gTupL_ap, gLstL_ap, gSt_ap, gTV_ap, gNot_ap, gAnd_ap, gOr_ap, condG_y, condG_tf, condG_ft, gIf_ap, pickG_t, pickG_f, giSeq_ap, giRange_ap, ofOG_some, ofO_some, gCall_ap, gCallK_ap, afterG_rt, afterG_ex, gMake_ap, gMakeK_ap, makeG_rt, makeG_ex, gLm_ap, isLst_ap, gLmK_ap, pNm_ap, pNmK_some, fnF_ap, finF_rt, finF_nx, finF_ex, sSubL_ap, subK_ap, faQ_ap, faQK_some, startP, stS, stA, okA, takeH, evalA, exP, Ag.sl, putH, toB, toI, lenV_ap, lenN_l, lenN_t, addV_i, subV_i, mulV_i, fdivV_i, modV_i, ltV_i, leV_i, gtV_i, geV_i, negV_i, eqV_i, eqV_s, eqV_b, neV_i, neV_s, neV_b, addV_s, addV_l, addV_t, ixV_t, ixV_tk, ixV_l, ixV_s, at_0, at_1, at_2, at_3, ix_0, ix_1, ix_2, decide_true, decide_false, mkTup, mkLst, mkTupG, mkLstG, fAppend, fExtend, fInsert, fClear, fPop, fRev, mkLc, D.free, D.up, D.st, D.view, D.fz, D.mapF, D.mapFL, viewF, fzF, D.noOwn, D.noBor, D.kept, D.allF, D.allFL, ownF, borF, keepF, List.map_cons, List.map_nil, List.length_cons, List.length_nil, List.length_map, List.replicate, List.cons_append, List.nil_append, List.append_nil, List.getElem?_cons_zero, List.getElem?_cons_succ, List.getElem?_nil, List.set_cons_zero, List.set_cons_succ, List.set_nil, Option.bind_some, Option.bind_none, Option.map_some, Option.map_none, id, Nat.zero_add, Nat.reduceAdd, Nat.reduceSub, Nat.sub_self, Nat.sub_zero, if_true, if_false, Bool.false_eq_true, Bool.and_true, Bool.true_and, Bool.not_true, Bool.not_false, and_true, true_and, and_self, reduceCtorEq, ne_eq, not_false_eq_true, sz_le, sz_lt, Nat.reduceLeDiff, ints_all, strs_all, callQ_ap, callK_some, giveQ_nil, giveQ_r, giveQ_k, resQ_rt, resQ_ex, q_str, q_int, q_bl, q_non, q_tup, q_lst, q_dic, q_dit, q_obj, qChain_ap, lenN_s, listV_t, listV_l, listV_d, tupleV_l, lenN_d, ixV_d, slV_l, all_true, ints_mp, strs_mp, fldD_ap, sFldF_ap, rndK_nx, rndK_ct, rndK_bk, rndK_rt, rndK_ex, forV_cons, forV_nil, sForMv_ap, mvK_some, pFld_ap, pFldK_o, pIx_ap, pIxK_l, pIxK_t, pIxK_d, gLmP_ap, gLmPK_ok, gLmPK_ex, mqNil_ap, mqCons_ap, Function.comp_apply, Function.comp_id, Function.id_comp, neV_strs, cv, z1]
  unfold F_Web_most_neighbours
  simp -implicitDefEqProofs only [bind_ok, bind_ex, bind_no, pure_ok, pure_ex, pure_no, seqE_ok, seqE_ex, seqE_no, seqS_nx, seqS_rt, seqS_ex, seqS_bk, seqS_ct, seqS_no, sNext_ap, sBreak_ap, sCont_ap, sRetN_ap, sSeq_ap, sDrop_ap, sRet_ap, sSet_ap, sIf_ap, condS_t, condS_f, sKillO_ap, killO_nx, killO_bk, killO_ct, killO_rt, killO_ex, kill_cons, kill_nil, sAsg_ap, asgK_ap, sRaise_ap, sFor_ap, forK_ap, setS_mk, setA_mk, look_mk, lookS_val, lookS_arg, qV_ap, oD_some, lc_mk, lcS_val, lcS_arg, get_s, get_a, rm_s, rm_a, put_s, put_a, view_mk, Sl.view_val, Sl.view_arg, Sl.view_no, wipe_nil, wipe_cons, qC_ap, qOp_ap, qUn_ap, qCB_ap, aNil_ap, aCons_ap, tV_ap, tNot_ap, tAnd_ap, tOr_ap, condT_y, condT_tf, condT_ft, tYes_ap, qNot_ap, qAnd_ap, qOr_ap, condQ_y, condQ_tf, condQ_ft, qIf_ap, pickQ_t, pickQ_f, qTup_ap, qLst_ap, qFld_ap, oNone_ap, oSome_ap, qSl_ap, qLc_ap, iSeq_ap, iRange_ap, qCall_ap, qMeth_ap, qM1_ap, gQ_ap, liftO_ok, liftO_ex, gQT_ap, liftT_ok, liftT_ex, gMove_mk, gFz_mk, gOp_ap, gOpK_ap, gUn_ap, gCB_ap, finG_ok, gNil_ap, gCons_ap, gConsK_ap, lNil_ap, lCons_ap, lConsK_ap, gTupL_ap, gLstL_ap, gSt_ap, gTV_ap, gNot_ap, gAnd_ap, gOr_ap, condG_y, condG_tf, condG_ft, gIf_ap, pickG_t, pickG_f, giSeq_ap, giRange_ap, ofOG_some, ofO_some, gCall_ap, gCallK_ap, afterG_rt, afterG_ex, gMake_ap, gMakeK_ap, makeG_rt, makeG_ex, gLm_ap, isLst_ap, gLmK_ap, pNm_ap, pNmK_some, fnF_ap, finF_rt, finF_nx, finF_ex, sSubL_ap, subK_ap, faQ_ap, faQK_some, startP, stS, stA, okA, takeH, evalA, exP, Ag.sl, putH, toB, toI, lenV_ap, lenN_l, lenN_t, addV_i, subV_i, mulV_i, fdivV_i, modV_i, ltV_i, leV_i, gtV_i, geV_i, negV_i, eqV_i, eqV_s, eqV_b, neV_i, neV_s, neV_b, addV_s, addV_l, addV_t, ixV_t, ixV_tk, ixV_l, ixV_s, at_0, at_1, at_2, at_3, ix_0, ix_1, ix_2, decide_true, decide_false, mkTup, mkLst, mkTupG, mkLstG, fAppend, fExtend, fInsert, fClear, fPop, fRev, mkLc, D.free, D.up, D.st, D.view, D.fz, D.mapF, D.mapFL, viewF, fzF, D.noOwn, D.noBor, D.kept, D.allF, D.allFL, ownF, borF, keepF, List.map_cons, List.map_nil, List.length_cons, List.length_nil, List.length_map, List.replicate, List.cons_append, List.nil_append, List.append_nil, List.getElem?_cons_zero, List.getElem?_cons_succ, List.getElem?_nil, List.set_cons_zero, List.set_cons_succ, List.set_nil, Option.bind_some, Option.bind_none, Option.map_some, Option.map_none, id, Nat.zero_add, Nat.reduceAdd, Nat.reduceSub, Nat.sub_self, Nat.sub_zero, if_true, if_false, Bool.false_eq_true, Bool.and_true, Bool.true_and, Bool.not_true, Bool.not_false, and_true, true_and, and_self, reduceCtorEq, ne_eq, not_false_eq_true, sz_le, sz_lt, Nat.reduceLeDiff, ints_all, strs_all, callQ_ap, callK_some, giveQ_nil, giveQ_r, giveQ_k, resQ_rt, resQ_ex, q_str, q_int, q_bl, q_non, q_tup, q_lst, q_dic, q_dit, q_obj, qChain_ap, lenN_s, listV_t, listV_l, listV_d, tupleV_l, lenN_d, ixV_d, slV_l, all_true, ints_mp, strs_mp, fldD_ap, sFldF_ap, rndK_nx, rndK_ct, rndK_bk, rndK_rt, rndK_ex, forV_cons, forV_nil, sForMv_ap, mvK_some, pFld_ap, pFldK_o, pIx_ap, pIxK_l, pIxK_t, pIxK_d, gLmP_ap, gLmPK_ok, gLmPK_ex, mqNil_ap, mqCons_ap, Function.comp_apply, Function.comp_id, Function.id_comp, neV_strs, qk, maxV_l ne]
def nearL (z : Str) (ts : List (Str × Str)) : List Str := (ts.filter fun t => decide (t.2 = z)).map (·.1) ++ (ts.filter fun t => decide (t.1 = z)).map (·.2)
theorem f_law_of {hs : List (Str × Int)} {ts : List (Str × Str)} {z : Str} (h : HOk hs) (t : TOk hs ts) : F__law_of K A [.lst .bor (ts.map eT), .str z] = .rt (.lst .own ((sortS (nearL z ts)).map D.str)) [none, none] := by
  have z1 : ts.length ≤ sizeLine := Nat.le_trans (Nat.le_of_lt t.few) (by decide)
  have l1 : (ts.filter fun t => decide (t.2 = z)).length ≤ ts.length := List.length_filter_le _ _
  have l2 : (ts.filter fun t => decide (t.1 = z)).length ≤ ts.length := List.length_filter_le _ _
  have s64 : (64 : Nat) + 64 ≤ sizeLine := by decide
  have tf := t.few
  have c1 : compV (.tp [.nm 3, .nm 4]) (tV (qOp VL.eqV (qV 4) (qV 1))) (qV 3) ⟨[.val (.lst .bor (ts.map eT)), .val (.str z), .no, .no, .no], [none, none]⟩ (ts.map eT) = .ok (((ts.filter fun t => decide (t.2 = z)).map (·.1)).map D.str) := by
    rw [compV_filter (p := fun t : Str × Str => decide (t.2 = z)) (h := fun t => D.str t.1) ts fun e m => ⟨_, rfl, rfl, fun _ => ⟨rfl, rfl⟩⟩, List.map_map]
    rfl
  have c2 : compV (.tp [.nm 3, .nm 4]) (tV (qOp VL.eqV (qV 3) (qV 1))) (qV 4) ⟨[.val (.lst .bor (ts.map eT)), .val (.str z), .no, .no, .no], [none, none]⟩ (ts.map eT) = .ok (((ts.filter fun t => decide (t.1 = z)).map (·.2)).map D.str) := by
    rw [compV_filter (p := fun t : Str × Str => decide (t.1 = z)) (h := fun t => D.str t.2) ts fun e m => ⟨_, rfl, rfl, fun _ => ⟨rfl, rfl⟩⟩, List.map_map]
    rfl
  have e1 : (ts.filter fun t => decide (t.2 = z)).length ≤ sizeLine := by omega
  have e2 : (ts.filter fun t => decide (t.1 = z)).length ≤ sizeLine := by omega
  have e3 : (ts.filter fun t => decide (t.2 = z)).length + (ts.filter fun t => decide (t.1 = z)).length ≤ sizeLine := by omega
  have cat : ((ts.filter fun t => decide (t.2 = z)).map (·.1)).map D.str ++ ((ts.filter fun t => decide (t.1 = z)).map (·.2)).map D.str = (nearL z ts).map D.str := by simp [nearL]
  have sv := sortV_strs (f := .own) (xs := nearL z ts) fun x hx => by
    rcases List.mem_append.mp hx with m | m
    · obtain ⟨e, me, rfl⟩ := List.mem_map.mp m
      exact nm_ok (h.mem (t.at' e (List.mem_filter.mp me).1).1)
    · obtain ⟨e, me, rfl⟩ := List.mem_map.mp m
      exact nm_ok (h.mem (t.at' e (List.mem_filter.mp me).1).2.1)
  unfold F__law_of
  simp -implicitDefEqProofs only [bind_ok, bind_ex, bind_no, pure_ok, pure_ex, pure_no, seqE_ok, seqE_ex, seqE_no, seqS_nx, seqS_rt, seqS_ex, seqS_bk, seqS_ct, seqS_no, sNext_ap, sBreak_ap, sCont_ap, sRetN_ap, sSeq_ap, sDrop_ap, sRet_ap, sSet_ap, sIf_ap, condS_t, condS_f, sKillO_ap, killO_nx, killO_bk, killO_ct, killO_rt, killO_ex, kill_cons, kill_nil, sAsg_ap, asgK_ap, sRaise_ap, sFor_ap, forK_ap, setS_mk, setA_mk, look_mk, lookS_val, lookS_arg, qV_ap, oD_some, lc_mk, lcS_val, lcS_arg, get_s, get_a, rm_s, rm_a, put_s, put_a, view_mk, Sl.view_val, Sl.view_arg, Sl.view_no, wipe_nil, wipe_cons, qC_ap, qOp_ap, qUn_ap, qCB_ap, aNil_ap, aCons_ap, tV_ap, tNot_ap, tAnd_ap, tOr_ap, condT_y, condT_tf, condT_ft, tYes_ap, qNot_ap, qAnd_ap, qOr_ap, condQ_y, condQ_tf, condQ_ft, qIf_ap, pickQ_t, pickQ_f, qTup_ap, qLst_ap, qFld_ap, oNone_ap, oSome_ap, qSl_ap, qLc_ap, iSeq_ap, iRange_ap, qCall_ap, qMeth_ap, qM1_ap, gQ_ap, liftO_ok, liftO_ex, gQT_ap, liftT_ok, liftT_ex, gMove_mk, gFz_mk, gOp_ap, gOpK_ap, gUn_ap, gCB_ap, finG_ok, gNil_ap, gCons_ap, gConsK_ap, lNil_ap, lCons_ap, lConsK_ap, gTupL_ap, gLstL_ap, gSt_ap, gTV_ap, gNot_ap, gAnd_ap, gOr_ap, condG_y, condG_tf, condG_ft, gIf_ap, pickG_t, pickG_f, giSeq_ap, giRange_ap, ofOG_some, ofO_some, gCall_ap, gCallK_ap, afterG_rt, afterG_ex, gMake_ap, gMakeK_ap, makeG_rt, makeG_ex, gLm_ap, isLst_ap, gLmK_ap, pNm_ap, pNmK_some, fnF_ap, finF_rt, finF_nx, finF_ex, sSubL_ap, subK_ap, faQ_ap, faQK_some, startP, stS, stA, okA, takeH, evalA, exP, Ag.sl, putH, toB, toI, lenV_ap, lenN_l, lenN_t, addV_i, subV_i, mulV_i, fdivV_i, modV_i, ltV_i, leV_i, gtV_i, geV_i, negV_i, eqV_i, eqV_s, eqV_b, neV_i, neV_s, neV_b, addV_s, addV_l, addV_t, ixV_t, ixV_tk, ixV_l, ixV_s, at_0, at_1, at_2, at_3, ix_0, ix_1, ix_2, decide_true, decide_false, mkTup, mkLst, mkTupG, mkLstG, fAppend, fExtend, fInsert, fClear, fPop, fRev, mkLc, D.free, D.up, D.st, D.view, D.fz, D.mapF, D.mapFL, viewF, fzF, D.noOwn, D.noBor, D.kept, D.allF, D.allFL, ownF, borF, keepF, List.map_cons, List.map_nil, List.length_cons, List.length_nil, List.length_map, List.replicate, List.cons_append, List.nil_append, List.append_nil, List.getElem?_cons_zero, List.getElem?_cons_succ, List.getElem?_nil, List.set_cons_zero, List.set_cons_succ, List.set_nil, Option.bind_some, Option.bind_none, Option.map_some, Option.map_none, id, Nat.zero_add, Nat.reduceAdd, Nat.reduceSub, Nat.sub_self, Nat.sub_zero, if_true, if_false, Bool.false_eq_true, Bool.and_true, Bool.true_and, Bool.not_true, Bool.not_false, and_true, true_and, and_self, reduceCtorEq, ne_eq, not_false_eq_true, sz_le, sz_lt, Nat.reduceLeDiff, ints_all, strs_all, callQ_ap, callK_some, giveQ_nil, giveQ_r, giveQ_k, resQ_rt, resQ_ex, q_str, q_int, q_bl, q_non, q_tup, q_lst, q_dic, q_dit, q_obj, qChain_ap, lenN_s, listV_t, listV_l, listV_d, tupleV_l, lenN_d, ixV_d, slV_l, all_true, ints_mp, strs_mp, fldD_ap, sFldF_ap, rndK_nx, rndK_ct, rndK_bk, rndK_rt, rndK_ex, forV_cons, forV_nil, sForMv_ap, mvK_some, pFld_ap, pFldK_o, pIx_ap, pIxK_l, pIxK_t, pIxK_d, gLmP_ap, gLmPK_ok, gLmPK_ex, mqNil_ap, mqCons_ap, Function.comp_apply, Function.comp_id, Function.id_comp, neV_strs, itemsD, c1, c2, e1, e2, e3, cat, sv]
theorem piece_srt {z : Str} {t : Str × Str} (ne : t.1 ≠ t.2) : piece z (srt t) = (if t.2 = z then [t.1] else []) ++ (if t.1 = z then [t.2] else []) := by
  obtain ⟨a, b, e, q⟩ := srt_two t
  have pm : ([a, b] : List Str).Perm [t.1, t.2] := by
    have : (srt t).Perm [t.1, t.2] := List.mergeSort_perm _ _
    rwa [e] at this
  have ab : a ≠ b := by
    intro z
    subst z
    have h1 := (q t.1).mpr (.inl rfl)
    have h2 := (q t.2).mpr (.inr rfl)
    exact ne (by grind)
  rw [e]
  have h1 := (q t.1).mpr (.inl rfl)
  have h2 := (q t.2).mpr (.inr rfl)
  have cs : (a = t.1 ∧ b = t.2) ∨ (a = t.2 ∧ b = t.1) := by grind
  rcases cs with ⟨rfl, rfl⟩ | ⟨rfl, rfl⟩
  · simp only [piece]
    by_cases h : t.1 = z
    · have : t.2 ≠ z := fun q => ne (h.trans q.symm)
      simp [h, this]
    · by_cases h' : t.2 = z <;> simp [h, h']
  · simp only [piece]
theorem near_same {hs : List (Str × Int)} {ts : List (Str × Str)} {z : Str} (t : TOk hs ts) : sortS (nearL z ts) = sortS (nearP z (prs ts)) := by
  refine (sortS_perm ?_).symm
  have p1 : (nearP z (prs ts)).Perm (nearP z (ts.map srt)) := List.Perm.flatMap_right _ sortT_pm
  refine p1.trans ?_
  have key : ∀ ts : List (Str × Str), (∀ t ∈ ts, t.1 ≠ t.2) → (nearP z (ts.map srt)).Perm (nearL z ts) := by
    intro ts
    induction ts with
    | nil => intro _; exact .refl _
    | cons t ts ih =>
      intro h
      have ih := ih fun x m => h x (by simp [m])
      show (piece z (srt t) ++ nearP z (ts.map srt)).Perm _
      rw [piece_srt (h t (by simp))]
      unfold nearL at ih ⊢
      by_cases h2 : t.2 = z
      · have h1 : t.1 ≠ z := fun q => h t (by simp) (q.trans h2.symm)
        simp only [h2, h1, if_true, if_false, List.append_nil, List.filter_cons, decide_true, decide_false, Bool.false_eq_true, List.map_cons, List.cons_append, List.nil_append]
        exact ih.cons _
      · by_cases h1 : t.1 = z
        · simp only [h2, h1, if_true, if_false, List.nil_append, List.filter_cons, decide_true, decide_false, Bool.false_eq_true, List.map_cons, List.cons_append]
          exact (ih.cons _).trans List.perm_middle.symm
        · simp only [h2, h1, if_false, List.nil_append, List.filter_cons, decide_false, Bool.false_eq_true]
          exact ih
  exact key ts fun x m => (t.at' x m).2.2
abbrev St (st : List Int) : D := .lst .own (st.map D.int)
theorem pre_mod {b x : Int} (hb : 0 < b) : 0 ≤ x % b ∧ x % b < b := ⟨Int.emod_nonneg _ (by omega), Int.emod_lt_of_pos _ hb⟩
theorem digit3 (a r n b : Int) (hb : 0 < b) (hb2 : b < 2 ^ 64) : ∃ d st', F__law_digit K A [St [a, r, n], .int b] = .rt (.int d) [some (St st'), none] ∧ 0 ≤ d ∧ d < b ∧ st'.length = 3 := by
  unfold F__law_digit
  have m1 : ∀ z : Int, mulOk 7919 z := fun z => mulOk_l (by decide)
  have m2 : ∀ z : Int, mulOk z 48271 := fun z => mulOk_r (by decide)
  have m3 : ∀ z y : Int, mulOk (z % 2147483647) y := fun z y => mulOk_l (by have := pre_mod (b := 2147483647) (x := z) (by decide); omega)
  have d1 : divOk 1009 := divOk_of (by decide) (by decide)
  have d2 : divOk 2003 := divOk_of (by decide) (by decide)
  have p1 : (0 : Int) < 2147483647 := by decide
  have p2 : (0 : Int) < 2147483399 := by decide
  simp -implicitDefEqProofs only [bind_ok, bind_ex, bind_no, pure_ok, pure_ex, pure_no, seqE_ok, seqE_ex, seqE_no, seqS_nx, seqS_rt, seqS_ex, seqS_bk, seqS_ct, seqS_no, sNext_ap, sBreak_ap, sCont_ap, sRetN_ap, sSeq_ap, sDrop_ap, sRet_ap, sSet_ap, sIf_ap, condS_t, condS_f, sKillO_ap, killO_nx, killO_bk, killO_ct, killO_rt, killO_ex, kill_cons, kill_nil, sAsg_ap, asgK_ap, sRaise_ap, sFor_ap, forK_ap, setS_mk, setA_mk, look_mk, lookS_val, lookS_arg, qV_ap, oD_some, lc_mk, lcS_val, lcS_arg, get_s, get_a, rm_s, rm_a, put_s, put_a, view_mk, Sl.view_val, Sl.view_arg, Sl.view_no, wipe_nil, wipe_cons, qC_ap, qOp_ap, qUn_ap, qCB_ap, aNil_ap, aCons_ap, tV_ap, tNot_ap, tAnd_ap, tOr_ap, condT_y, condT_tf, condT_ft, tYes_ap, qNot_ap, qAnd_ap, qOr_ap, condQ_y, condQ_tf, condQ_ft, qIf_ap, pickQ_t, pickQ_f, qTup_ap, qLst_ap, qFld_ap, oNone_ap, oSome_ap, qSl_ap, qLc_ap, iSeq_ap, iRange_ap, qCall_ap, qMeth_ap, qM1_ap, gQ_ap, liftO_ok, liftO_ex, gQT_ap, liftT_ok, liftT_ex, gMove_mk, gFz_mk, gOp_ap, gOpK_ap, gUn_ap, gCB_ap, finG_ok, gNil_ap, gCons_ap, gConsK_ap, lNil_ap, lCons_ap, lConsK_ap, gTupL_ap, gLstL_ap, gSt_ap, gTV_ap, gNot_ap, gAnd_ap, gOr_ap, condG_y, condG_tf, condG_ft, gIf_ap, pickG_t, pickG_f, giSeq_ap, giRange_ap, ofOG_some, ofO_some, gCall_ap, gCallK_ap, afterG_rt, afterG_ex, gMake_ap, gMakeK_ap, makeG_rt, makeG_ex, gLm_ap, isLst_ap, gLmK_ap, pNm_ap, pNmK_some, fnF_ap, finF_rt, finF_nx, finF_ex, sSubL_ap, subK_ap, faQ_ap, faQK_some, startP, stS, stA, okA, takeH, evalA, exP, Ag.sl, putH, toB, toI, lenV_ap, lenN_l, lenN_t, addV_i, subV_i, mulV_i, fdivV_i, modV_i, ltV_i, leV_i, gtV_i, geV_i, negV_i, eqV_i, eqV_s, eqV_b, neV_i, neV_s, neV_b, addV_s, addV_l, addV_t, ixV_t, ixV_tk, ixV_l, ixV_s, at_0, at_1, at_2, at_3, ix_0, ix_1, ix_2, decide_true, decide_false, mkTup, mkLst, mkTupG, mkLstG, fAppend, fExtend, fInsert, fClear, fPop, fRev, mkLc, D.free, D.up, D.st, D.view, D.fz, D.mapF, D.mapFL, viewF, fzF, D.noOwn, D.noBor, D.kept, D.allF, D.allFL, ownF, borF, keepF, List.map_cons, List.map_nil, List.length_cons, List.length_nil, List.length_map, List.replicate, List.cons_append, List.nil_append, List.append_nil, List.getElem?_cons_zero, List.getElem?_cons_succ, List.getElem?_nil, List.set_cons_zero, List.set_cons_succ, List.set_nil, Option.bind_some, Option.bind_none, Option.map_some, Option.map_none, id, Nat.zero_add, Nat.reduceAdd, Nat.reduceSub, Nat.sub_self, Nat.sub_zero, if_true, if_false, Bool.false_eq_true, Bool.and_true, Bool.true_and, Bool.not_true, Bool.not_false, and_true, true_and, and_self, reduceCtorEq, ne_eq, not_false_eq_true, sz_le, sz_lt, Nat.reduceLeDiff, ints_all, strs_all, callQ_ap, callK_some, giveQ_nil, giveQ_r, giveQ_k, resQ_rt, resQ_ex, q_str, q_int, q_bl, q_non, q_tup, q_lst, q_dic, q_dit, q_obj, qChain_ap, lenN_s, listV_t, listV_l, listV_d, tupleV_l, lenN_d, ixV_d, slV_l, all_true, ints_mp, strs_mp, fldD_ap, sFldF_ap, rndK_nx, rndK_ct, rndK_bk, rndK_rt, rndK_ex, forV_cons, forV_nil, sForMv_ap, mvK_some, pFld_ap, pFldK_o, pIx_ap, pIxK_l, pIxK_t, pIxK_d, gLmP_ap, gLmPK_ok, gLmPK_ex, mqNil_ap, mqCons_ap, Function.comp_apply, Function.comp_id, Function.id_comp, neV_strs, show decide (((3 : Nat) : Int) = 1) = false from rfl]
  by_cases ha : a > 0
  · simp -implicitDefEqProofs only [bind_ok, bind_ex, bind_no, pure_ok, pure_ex, pure_no, seqE_ok, seqE_ex, seqE_no, seqS_nx, seqS_rt, seqS_ex, seqS_bk, seqS_ct, seqS_no, sNext_ap, sBreak_ap, sCont_ap, sRetN_ap, sSeq_ap, sDrop_ap, sRet_ap, sSet_ap, sIf_ap, condS_t, condS_f, sKillO_ap, killO_nx, killO_bk, killO_ct, killO_rt, killO_ex, kill_cons, kill_nil, sAsg_ap, asgK_ap, sRaise_ap, sFor_ap, forK_ap, setS_mk, setA_mk, look_mk, lookS_val, lookS_arg, qV_ap, oD_some, lc_mk, lcS_val, lcS_arg, get_s, get_a, rm_s, rm_a, put_s, put_a, view_mk, Sl.view_val, Sl.view_arg, Sl.view_no, wipe_nil, wipe_cons, qC_ap, qOp_ap, qUn_ap, qCB_ap, aNil_ap, aCons_ap, tV_ap, tNot_ap, tAnd_ap, tOr_ap, condT_y, condT_tf, condT_ft, tYes_ap, qNot_ap, qAnd_ap, qOr_ap, condQ_y, condQ_tf, condQ_ft, qIf_ap, pickQ_t, pickQ_f, qTup_ap, qLst_ap, qFld_ap, oNone_ap, oSome_ap, qSl_ap, qLc_ap, iSeq_ap, iRange_ap, qCall_ap, qMeth_ap, qM1_ap, gQ_ap, liftO_ok, liftO_ex, gQT_ap, liftT_ok, liftT_ex, gMove_mk, gFz_mk, gOp_ap, gOpK_ap, gUn_ap, gCB_ap, finG_ok, gNil_ap, gCons_ap, gConsK_ap, lNil_ap, lCons_ap, lConsK_ap, gTupL_ap, gLstL_ap, gSt_ap, gTV_ap, gNot_ap, gAnd_ap, gOr_ap, condG_y, condG_tf, condG_ft, gIf_ap, pickG_t, pickG_f, giSeq_ap, giRange_ap, ofOG_some, ofO_some, gCall_ap, gCallK_ap, afterG_rt, afterG_ex, gMake_ap, gMakeK_ap, makeG_rt, makeG_ex, gLm_ap, isLst_ap, gLmK_ap, pNm_ap, pNmK_some, fnF_ap, finF_rt, finF_nx, finF_ex, sSubL_ap, subK_ap, faQ_ap, faQK_some, startP, stS, stA, okA, takeH, evalA, exP, Ag.sl, putH, toB, toI, lenV_ap, lenN_l, lenN_t, addV_i, subV_i, mulV_i, fdivV_i, modV_i, ltV_i, leV_i, gtV_i, geV_i, negV_i, eqV_i, eqV_s, eqV_b, neV_i, neV_s, neV_b, addV_s, addV_l, addV_t, ixV_t, ixV_tk, ixV_l, ixV_s, at_0, at_1, at_2, at_3, ix_0, ix_1, ix_2, decide_true, decide_false, mkTup, mkLst, mkTupG, mkLstG, fAppend, fExtend, fInsert, fClear, fPop, fRev, mkLc, D.free, D.up, D.st, D.view, D.fz, D.mapF, D.mapFL, viewF, fzF, D.noOwn, D.noBor, D.kept, D.allF, D.allFL, ownF, borF, keepF, List.map_cons, List.map_nil, List.length_cons, List.length_nil, List.length_map, List.replicate, List.cons_append, List.nil_append, List.append_nil, List.getElem?_cons_zero, List.getElem?_cons_succ, List.getElem?_nil, List.set_cons_zero, List.set_cons_succ, List.set_nil, Option.bind_some, Option.bind_none, Option.map_some, Option.map_none, id, Nat.zero_add, Nat.reduceAdd, Nat.reduceSub, Nat.sub_self, Nat.sub_zero, if_true, if_false, Bool.false_eq_true, Bool.and_true, Bool.true_and, Bool.not_true, Bool.not_false, and_true, true_and, and_self, reduceCtorEq, ne_eq, not_false_eq_true, sz_le, sz_lt, Nat.reduceLeDiff, ints_all, strs_all, callQ_ap, callK_some, giveQ_nil, giveQ_r, giveQ_k, resQ_rt, resQ_ex, q_str, q_int, q_bl, q_non, q_tup, q_lst, q_dic, q_dit, q_obj, qChain_ap, lenN_s, listV_t, listV_l, listV_d, tupleV_l, lenN_d, ixV_d, slV_l, all_true, ints_mp, strs_mp, fldD_ap, sFldF_ap, rndK_nx, rndK_ct, rndK_bk, rndK_rt, rndK_ex, forV_cons, forV_nil, sForMv_ap, mvK_some, pFld_ap, pFldK_o, pIx_ap, pIxK_l, pIxK_t, pIxK_d, gLmP_ap, gLmPK_ok, gLmPK_ex, mqNil_ap, mqCons_ap, Function.comp_apply, Function.comp_id, Function.id_comp, neV_strs, decide_eq_true ha, hb, divOk_of hb hb2]
    exact ⟨_, [a / b, r, n], rfl, (pre_mod hb).1, (pre_mod hb).2, rfl⟩
  · simp -implicitDefEqProofs only [bind_ok, bind_ex, bind_no, pure_ok, pure_ex, pure_no, seqE_ok, seqE_ex, seqE_no, seqS_nx, seqS_rt, seqS_ex, seqS_bk, seqS_ct, seqS_no, sNext_ap, sBreak_ap, sCont_ap, sRetN_ap, sSeq_ap, sDrop_ap, sRet_ap, sSet_ap, sIf_ap, condS_t, condS_f, sKillO_ap, killO_nx, killO_bk, killO_ct, killO_rt, killO_ex, kill_cons, kill_nil, sAsg_ap, asgK_ap, sRaise_ap, sFor_ap, forK_ap, setS_mk, setA_mk, look_mk, lookS_val, lookS_arg, qV_ap, oD_some, lc_mk, lcS_val, lcS_arg, get_s, get_a, rm_s, rm_a, put_s, put_a, view_mk, Sl.view_val, Sl.view_arg, Sl.view_no, wipe_nil, wipe_cons, qC_ap, qOp_ap, qUn_ap, qCB_ap, aNil_ap, aCons_ap, tV_ap, tNot_ap, tAnd_ap, tOr_ap, condT_y, condT_tf, condT_ft, tYes_ap, qNot_ap, qAnd_ap, qOr_ap, condQ_y, condQ_tf, condQ_ft, qIf_ap, pickQ_t, pickQ_f, qTup_ap, qLst_ap, qFld_ap, oNone_ap, oSome_ap, qSl_ap, qLc_ap, iSeq_ap, iRange_ap, qCall_ap, qMeth_ap, qM1_ap, gQ_ap, liftO_ok, liftO_ex, gQT_ap, liftT_ok, liftT_ex, gMove_mk, gFz_mk, gOp_ap, gOpK_ap, gUn_ap, gCB_ap, finG_ok, gNil_ap, gCons_ap, gConsK_ap, lNil_ap, lCons_ap, lConsK_ap, gTupL_ap, gLstL_ap, gSt_ap, gTV_ap, gNot_ap, gAnd_ap, gOr_ap, condG_y, condG_tf, condG_ft, gIf_ap, pickG_t, pickG_f, giSeq_ap, giRange_ap, ofOG_some, ofO_some, gCall_ap, gCallK_ap, afterG_rt, afterG_ex, gMake_ap, gMakeK_ap, makeG_rt, makeG_ex, gLm_ap, isLst_ap, gLmK_ap, pNm_ap, pNmK_some, fnF_ap, finF_rt, finF_nx, finF_ex, sSubL_ap, subK_ap, faQ_ap, faQK_some, startP, stS, stA, okA, takeH, evalA, exP, Ag.sl, putH, toB, toI, lenV_ap, lenN_l, lenN_t, addV_i, subV_i, mulV_i, fdivV_i, modV_i, ltV_i, leV_i, gtV_i, geV_i, negV_i, eqV_i, eqV_s, eqV_b, neV_i, neV_s, neV_b, addV_s, addV_l, addV_t, ixV_t, ixV_tk, ixV_l, ixV_s, at_0, at_1, at_2, at_3, ix_0, ix_1, ix_2, decide_true, decide_false, mkTup, mkLst, mkTupG, mkLstG, fAppend, fExtend, fInsert, fClear, fPop, fRev, mkLc, D.free, D.up, D.st, D.view, D.fz, D.mapF, D.mapFL, viewF, fzF, D.noOwn, D.noBor, D.kept, D.allF, D.allFL, ownF, borF, keepF, List.map_cons, List.map_nil, List.length_cons, List.length_nil, List.length_map, List.replicate, List.cons_append, List.nil_append, List.append_nil, List.getElem?_cons_zero, List.getElem?_cons_succ, List.getElem?_nil, List.set_cons_zero, List.set_cons_succ, List.set_nil, Option.bind_some, Option.bind_none, Option.map_some, Option.map_none, id, Nat.zero_add, Nat.reduceAdd, Nat.reduceSub, Nat.sub_self, Nat.sub_zero, if_true, if_false, Bool.false_eq_true, Bool.and_true, Bool.true_and, Bool.not_true, Bool.not_false, and_true, true_and, and_self, reduceCtorEq, ne_eq, not_false_eq_true, sz_le, sz_lt, Nat.reduceLeDiff, ints_all, strs_all, callQ_ap, callK_some, giveQ_nil, giveQ_r, giveQ_k, resQ_rt, resQ_ex, q_str, q_int, q_bl, q_non, q_tup, q_lst, q_dic, q_dit, q_obj, qChain_ap, lenN_s, listV_t, listV_l, listV_d, tupleV_l, lenN_d, ixV_d, slV_l, all_true, ints_mp, strs_mp, fldD_ap, sFldF_ap, rndK_nx, rndK_ct, rndK_bk, rndK_rt, rndK_ex, forV_cons, forV_nil, sForMv_ap, mvK_some, pFld_ap, pFldK_o, pIx_ap, pIxK_l, pIxK_t, pIxK_d, gLmP_ap, gLmPK_ok, gLmPK_ex, mqNil_ap, mqCons_ap, Function.comp_apply, Function.comp_id, Function.id_comp, neV_strs, decide_eq_false ha, m1, m2, m3, p1, p2, d1, d2, hb]
    exact ⟨_, [a, r, n + 1], rfl, (pre_mod hb).1, (pre_mod hb).2, rfl⟩
theorem digit1 (c b : Int) (hb : 0 < b) (hb2 : b < 2 ^ 64) : ∃ d st', F__law_digit K A [St [c], .int b] = .rt (.int d) [some (St st'), none] ∧ 0 ≤ d ∧ d < b ∧ st'.length = 3 := by
  unfold F__law_digit
  have m1 : ∀ z : Int, mulOk 7919 z := fun z => mulOk_l (by decide)
  have m2 : ∀ z : Int, mulOk z 48271 := fun z => mulOk_r (by decide)
  have m3 : ∀ z y : Int, mulOk (z % 2147483647) y := fun z y => mulOk_l (by have := pre_mod (b := 2147483647) (x := z) (by decide); omega)
  have d1 : divOk 1009 := divOk_of (by decide) (by decide)
  have d2 : divOk 2003 := divOk_of (by decide) (by decide)
  have p1 : (0 : Int) < 2147483647 := by decide
  have p2 : (0 : Int) < 2147483399 := by decide
  simp -implicitDefEqProofs only [bind_ok, bind_ex, bind_no, pure_ok, pure_ex, pure_no, seqE_ok, seqE_ex, seqE_no, seqS_nx, seqS_rt, seqS_ex, seqS_bk, seqS_ct, seqS_no, sNext_ap, sBreak_ap, sCont_ap, sRetN_ap, sSeq_ap, sDrop_ap, sRet_ap, sSet_ap, sIf_ap, condS_t, condS_f, sKillO_ap, killO_nx, killO_bk, killO_ct, killO_rt, killO_ex, kill_cons, kill_nil, sAsg_ap, asgK_ap, sRaise_ap, sFor_ap, forK_ap, setS_mk, setA_mk, look_mk, lookS_val, lookS_arg, qV_ap, oD_some, lc_mk, lcS_val, lcS_arg, get_s, get_a, rm_s, rm_a, put_s, put_a, view_mk, Sl.view_val, Sl.view_arg, Sl.view_no, wipe_nil, wipe_cons, qC_ap, qOp_ap, qUn_ap, qCB_ap, aNil_ap, aCons_ap, tV_ap, tNot_ap, tAnd_ap, tOr_ap, condT_y, condT_tf, condT_ft, tYes_ap, qNot_ap, qAnd_ap, qOr_ap, condQ_y, condQ_tf, condQ_ft, qIf_ap, pickQ_t, pickQ_f, qTup_ap, qLst_ap, qFld_ap, oNone_ap, oSome_ap, qSl_ap, qLc_ap, iSeq_ap, iRange_ap, qCall_ap, qMeth_ap, qM1_ap, gQ_ap, liftO_ok, liftO_ex, gQT_ap, liftT_ok, liftT_ex, gMove_mk, gFz_mk, gOp_ap, gOpK_ap, gUn_ap, gCB_ap, finG_ok, gNil_ap, gCons_ap, gConsK_ap, lNil_ap, lCons_ap, lConsK_ap, gTupL_ap, gLstL_ap, gSt_ap, gTV_ap, gNot_ap, gAnd_ap, gOr_ap, condG_y, condG_tf, condG_ft, gIf_ap, pickG_t, pickG_f, giSeq_ap, giRange_ap, ofOG_some, ofO_some, gCall_ap, gCallK_ap, afterG_rt, afterG_ex, gMake_ap, gMakeK_ap, makeG_rt, makeG_ex, gLm_ap, isLst_ap, gLmK_ap, pNm_ap, pNmK_some, fnF_ap, finF_rt, finF_nx, finF_ex, sSubL_ap, subK_ap, faQ_ap, faQK_some, startP, stS, stA, okA, takeH, evalA, exP, Ag.sl, putH, toB, toI, lenV_ap, lenN_l, lenN_t, addV_i, subV_i, mulV_i, fdivV_i, modV_i, ltV_i, leV_i, gtV_i, geV_i, negV_i, eqV_i, eqV_s, eqV_b, neV_i, neV_s, neV_b, addV_s, addV_l, addV_t, ixV_t, ixV_tk, ixV_l, ixV_s, at_0, at_1, at_2, at_3, ix_0, ix_1, ix_2, decide_true, decide_false, mkTup, mkLst, mkTupG, mkLstG, fAppend, fExtend, fInsert, fClear, fPop, fRev, mkLc, D.free, D.up, D.st, D.view, D.fz, D.mapF, D.mapFL, viewF, fzF, D.noOwn, D.noBor, D.kept, D.allF, D.allFL, ownF, borF, keepF, List.map_cons, List.map_nil, List.length_cons, List.length_nil, List.length_map, List.replicate, List.cons_append, List.nil_append, List.append_nil, List.getElem?_cons_zero, List.getElem?_cons_succ, List.getElem?_nil, List.set_cons_zero, List.set_cons_succ, List.set_nil, Option.bind_some, Option.bind_none, Option.map_some, Option.map_none, id, Nat.zero_add, Nat.reduceAdd, Nat.reduceSub, Nat.sub_self, Nat.sub_zero, if_true, if_false, Bool.false_eq_true, Bool.and_true, Bool.true_and, Bool.not_true, Bool.not_false, and_true, true_and, and_self, reduceCtorEq, ne_eq, not_false_eq_true, sz_le, sz_lt, Nat.reduceLeDiff, ints_all, strs_all, callQ_ap, callK_some, giveQ_nil, giveQ_r, giveQ_k, resQ_rt, resQ_ex, q_str, q_int, q_bl, q_non, q_tup, q_lst, q_dic, q_dit, q_obj, qChain_ap, lenN_s, listV_t, listV_l, listV_d, tupleV_l, lenN_d, ixV_d, slV_l, all_true, ints_mp, strs_mp, fldD_ap, sFldF_ap, rndK_nx, rndK_ct, rndK_bk, rndK_rt, rndK_ex, forV_cons, forV_nil, sForMv_ap, mvK_some, pFld_ap, pFldK_o, pIx_ap, pIxK_l, pIxK_t, pIxK_d, gLmP_ap, gLmPK_ok, gLmPK_ex, mqNil_ap, mqCons_ap, Function.comp_apply, Function.comp_id, Function.id_comp, neV_strs, show decide (((1 : Nat) : Int) = 1) = true from rfl, p1]
  by_cases ha : c > 0
  · simp -implicitDefEqProofs only [bind_ok, bind_ex, bind_no, pure_ok, pure_ex, pure_no, seqE_ok, seqE_ex, seqE_no, seqS_nx, seqS_rt, seqS_ex, seqS_bk, seqS_ct, seqS_no, sNext_ap, sBreak_ap, sCont_ap, sRetN_ap, sSeq_ap, sDrop_ap, sRet_ap, sSet_ap, sIf_ap, condS_t, condS_f, sKillO_ap, killO_nx, killO_bk, killO_ct, killO_rt, killO_ex, kill_cons, kill_nil, sAsg_ap, asgK_ap, sRaise_ap, sFor_ap, forK_ap, setS_mk, setA_mk, look_mk, lookS_val, lookS_arg, qV_ap, oD_some, lc_mk, lcS_val, lcS_arg, get_s, get_a, rm_s, rm_a, put_s, put_a, view_mk, Sl.view_val, Sl.view_arg, Sl.view_no, wipe_nil, wipe_cons, qC_ap, qOp_ap, qUn_ap, qCB_ap, aNil_ap, aCons_ap, tV_ap, tNot_ap, tAnd_ap, tOr_ap, condT_y, condT_tf, condT_ft, tYes_ap, qNot_ap, qAnd_ap, qOr_ap, condQ_y, condQ_tf, condQ_ft, qIf_ap, pickQ_t, pickQ_f, qTup_ap, qLst_ap, qFld_ap, oNone_ap, oSome_ap, qSl_ap, qLc_ap, iSeq_ap, iRange_ap, qCall_ap, qMeth_ap, qM1_ap, gQ_ap, liftO_ok, liftO_ex, gQT_ap, liftT_ok, liftT_ex, gMove_mk, gFz_mk, gOp_ap, gOpK_ap, gUn_ap, gCB_ap, finG_ok, gNil_ap, gCons_ap, gConsK_ap, lNil_ap, lCons_ap, lConsK_ap, gTupL_ap, gLstL_ap, gSt_ap, gTV_ap, gNot_ap, gAnd_ap, gOr_ap, condG_y, condG_tf, condG_ft, gIf_ap, pickG_t, pickG_f, giSeq_ap, giRange_ap, ofOG_some, ofO_some, gCall_ap, gCallK_ap, afterG_rt, afterG_ex, gMake_ap, gMakeK_ap, makeG_rt, makeG_ex, gLm_ap, isLst_ap, gLmK_ap, pNm_ap, pNmK_some, fnF_ap, finF_rt, finF_nx, finF_ex, sSubL_ap, subK_ap, faQ_ap, faQK_some, startP, stS, stA, okA, takeH, evalA, exP, Ag.sl, putH, toB, toI, lenV_ap, lenN_l, lenN_t, addV_i, subV_i, mulV_i, fdivV_i, modV_i, ltV_i, leV_i, gtV_i, geV_i, negV_i, eqV_i, eqV_s, eqV_b, neV_i, neV_s, neV_b, addV_s, addV_l, addV_t, ixV_t, ixV_tk, ixV_l, ixV_s, at_0, at_1, at_2, at_3, ix_0, ix_1, ix_2, decide_true, decide_false, mkTup, mkLst, mkTupG, mkLstG, fAppend, fExtend, fInsert, fClear, fPop, fRev, mkLc, D.free, D.up, D.st, D.view, D.fz, D.mapF, D.mapFL, viewF, fzF, D.noOwn, D.noBor, D.kept, D.allF, D.allFL, ownF, borF, keepF, List.map_cons, List.map_nil, List.length_cons, List.length_nil, List.length_map, List.replicate, List.cons_append, List.nil_append, List.append_nil, List.getElem?_cons_zero, List.getElem?_cons_succ, List.getElem?_nil, List.set_cons_zero, List.set_cons_succ, List.set_nil, Option.bind_some, Option.bind_none, Option.map_some, Option.map_none, id, Nat.zero_add, Nat.reduceAdd, Nat.reduceSub, Nat.sub_self, Nat.sub_zero, if_true, if_false, Bool.false_eq_true, Bool.and_true, Bool.true_and, Bool.not_true, Bool.not_false, and_true, true_and, and_self, reduceCtorEq, ne_eq, not_false_eq_true, sz_le, sz_lt, Nat.reduceLeDiff, ints_all, strs_all, callQ_ap, callK_some, giveQ_nil, giveQ_r, giveQ_k, resQ_rt, resQ_ex, q_str, q_int, q_bl, q_non, q_tup, q_lst, q_dic, q_dit, q_obj, qChain_ap, lenN_s, listV_t, listV_l, listV_d, tupleV_l, lenN_d, ixV_d, slV_l, all_true, ints_mp, strs_mp, fldD_ap, sFldF_ap, rndK_nx, rndK_ct, rndK_bk, rndK_rt, rndK_ex, forV_cons, forV_nil, sForMv_ap, mvK_some, pFld_ap, pFldK_o, pIx_ap, pIxK_l, pIxK_t, pIxK_d, gLmP_ap, gLmPK_ok, gLmPK_ex, mqNil_ap, mqCons_ap, Function.comp_apply, Function.comp_id, Function.id_comp, neV_strs, decide_eq_true ha, hb, divOk_of hb hb2]
    exact ⟨_, [c / b, c % 2147483647, 0], rfl, (pre_mod hb).1, (pre_mod hb).2, rfl⟩
  · simp -implicitDefEqProofs only [bind_ok, bind_ex, bind_no, pure_ok, pure_ex, pure_no, seqE_ok, seqE_ex, seqE_no, seqS_nx, seqS_rt, seqS_ex, seqS_bk, seqS_ct, seqS_no, sNext_ap, sBreak_ap, sCont_ap, sRetN_ap, sSeq_ap, sDrop_ap, sRet_ap, sSet_ap, sIf_ap, condS_t, condS_f, sKillO_ap, killO_nx, killO_bk, killO_ct, killO_rt, killO_ex, kill_cons, kill_nil, sAsg_ap, asgK_ap, sRaise_ap, sFor_ap, forK_ap, setS_mk, setA_mk, look_mk, lookS_val, lookS_arg, qV_ap, oD_some, lc_mk, lcS_val, lcS_arg, get_s, get_a, rm_s, rm_a, put_s, put_a, view_mk, Sl.view_val, Sl.view_arg, Sl.view_no, wipe_nil, wipe_cons, qC_ap, qOp_ap, qUn_ap, qCB_ap, aNil_ap, aCons_ap, tV_ap, tNot_ap, tAnd_ap, tOr_ap, condT_y, condT_tf, condT_ft, tYes_ap, qNot_ap, qAnd_ap, qOr_ap, condQ_y, condQ_tf, condQ_ft, qIf_ap, pickQ_t, pickQ_f, qTup_ap, qLst_ap, qFld_ap, oNone_ap, oSome_ap, qSl_ap, qLc_ap, iSeq_ap, iRange_ap, qCall_ap, qMeth_ap, qM1_ap, gQ_ap, liftO_ok, liftO_ex, gQT_ap, liftT_ok, liftT_ex, gMove_mk, gFz_mk, gOp_ap, gOpK_ap, gUn_ap, gCB_ap, finG_ok, gNil_ap, gCons_ap, gConsK_ap, lNil_ap, lCons_ap, lConsK_ap, gTupL_ap, gLstL_ap, gSt_ap, gTV_ap, gNot_ap, gAnd_ap, gOr_ap, condG_y, condG_tf, condG_ft, gIf_ap, pickG_t, pickG_f, giSeq_ap, giRange_ap, ofOG_some, ofO_some, gCall_ap, gCallK_ap, afterG_rt, afterG_ex, gMake_ap, gMakeK_ap, makeG_rt, makeG_ex, gLm_ap, isLst_ap, gLmK_ap, pNm_ap, pNmK_some, fnF_ap, finF_rt, finF_nx, finF_ex, sSubL_ap, subK_ap, faQ_ap, faQK_some, startP, stS, stA, okA, takeH, evalA, exP, Ag.sl, putH, toB, toI, lenV_ap, lenN_l, lenN_t, addV_i, subV_i, mulV_i, fdivV_i, modV_i, ltV_i, leV_i, gtV_i, geV_i, negV_i, eqV_i, eqV_s, eqV_b, neV_i, neV_s, neV_b, addV_s, addV_l, addV_t, ixV_t, ixV_tk, ixV_l, ixV_s, at_0, at_1, at_2, at_3, ix_0, ix_1, ix_2, decide_true, decide_false, mkTup, mkLst, mkTupG, mkLstG, fAppend, fExtend, fInsert, fClear, fPop, fRev, mkLc, D.free, D.up, D.st, D.view, D.fz, D.mapF, D.mapFL, viewF, fzF, D.noOwn, D.noBor, D.kept, D.allF, D.allFL, ownF, borF, keepF, List.map_cons, List.map_nil, List.length_cons, List.length_nil, List.length_map, List.replicate, List.cons_append, List.nil_append, List.append_nil, List.getElem?_cons_zero, List.getElem?_cons_succ, List.getElem?_nil, List.set_cons_zero, List.set_cons_succ, List.set_nil, Option.bind_some, Option.bind_none, Option.map_some, Option.map_none, id, Nat.zero_add, Nat.reduceAdd, Nat.reduceSub, Nat.sub_self, Nat.sub_zero, if_true, if_false, Bool.false_eq_true, Bool.and_true, Bool.true_and, Bool.not_true, Bool.not_false, and_true, true_and, and_self, reduceCtorEq, ne_eq, not_false_eq_true, sz_le, sz_lt, Nat.reduceLeDiff, ints_all, strs_all, callQ_ap, callK_some, giveQ_nil, giveQ_r, giveQ_k, resQ_rt, resQ_ex, q_str, q_int, q_bl, q_non, q_tup, q_lst, q_dic, q_dit, q_obj, qChain_ap, lenN_s, listV_t, listV_l, listV_d, tupleV_l, lenN_d, ixV_d, slV_l, all_true, ints_mp, strs_mp, fldD_ap, sFldF_ap, rndK_nx, rndK_ct, rndK_bk, rndK_rt, rndK_ex, forV_cons, forV_nil, sForMv_ap, mvK_some, pFld_ap, pFldK_o, pIx_ap, pIxK_l, pIxK_t, pIxK_d, gLmP_ap, gLmPK_ok, gLmPK_ex, mqNil_ap, mqCons_ap, Function.comp_apply, Function.comp_id, Function.id_comp, neV_strs, decide_eq_false ha, m1, m2, m3, p1, p2, d1, d2, hb]
    exact ⟨_, [c, c % 2147483647, 0 + 1], rfl, (pre_mod hb).1, (pre_mod hb).2, rfl⟩
/-- the state of the law's draws -/
def Good (st : List Int) : Prop := st.length = 1 ∨ st.length = 3
theorem digit_ok {st : List Int} {b : Int} (g : Good st) (hb : 0 < b) (hb2 : b < 2 ^ 64) : ∃ d st', F__law_digit K A [St st, .int b] = .rt (.int d) [some (St st'), none] ∧ 0 ≤ d ∧ d < b ∧ Good st' := by
  match st, g with
  | [c], _ =>
    obtain ⟨d, st', h, h1, h2, h3⟩ := digit1 (K := K) (A := A) c b hb hb2
    exact ⟨d, st', h, h1, h2, .inr h3⟩
  | [a, r, n], _ =>
    obtain ⟨d, st', h, h1, h2, h3⟩ := digit3 (K := K) (A := A) a r n b hb hb2
    exact ⟨d, st', h, h1, h2, .inr h3⟩
  | [], g => simp [Good] at g
  | [_, _], g => simp [Good] at g
  | _ :: _ :: _ :: _ :: _, g => simp [Good] at g
theorem ok_St {st : List Int} : (St st).noBor = true := by simp only [St, D.noBor, D.allF, borF, Bool.true_and]; exact ints_all st
/-- lower letters -/
theorem len26 : ("abcdefghijklmnopqrstuvwxyz" : Str).cps.toList.length = 26 := by decide +kernel
theorem s0 : ("" : Str).length = 0 := by decide +kernel
theorem s0l : ("" : Str).cps.toList = [] := by decide +kernel
theorem len26' : ("abcdefghijklmnopqrstuvwxyz" : Str).length ≤ sizeLine := by decide +kernel
theorem cat_len {x : Str} {c : Nat} : (x ++ (⟨#[c]⟩ : Str)).length = x.length + 1 := by
  show (x.cps ++ #[c]).size = x.cps.size + 1
  simp
theorem cat_low {x : Str} {c : Nat} (h : Low x) (hc : c ∈ ("abcdefghijklmnopqrstuvwxyz" : Str).cps.toList) : Low (x ++ (⟨#[c]⟩ : Str)) := fun d m => by
  have : d ∈ x.cps.toList ++ [c] := by
    have e : (x ++ (⟨#[c]⟩ : Str)).cps = x.cps ++ #[c] := rfl
    rw [e] at m
    simpa using m
  rcases List.mem_append.mp this with m | m
  · exact h d m
  · have : d = c := by simpa using m
    subst this; exact hc
theorem name_loop : ∀ (n k : Nat) (z : Str) (st : List Int), Good st → Low z → z.length + n ≤ 8 → ∃ z' st', forV (.nm 2) (B0__law_name K A) ((List.range' k n).map fun i : Nat => D.int (0 + (i : Int))) ⟨[.arg 0, .val (.str z), .no], [some (St st)]⟩ = .nx ⟨[.arg 0, .val (.str z'), .no], [some (St st')]⟩ ∧ Good st' ∧ Low z' ∧ z'.length = z.length + n
  | 0, k, z, st, g, lz, hl => ⟨z, st, rfl, g, lz, rfl⟩
  | n + 1, k, z, st, g, lz, hl => by
    obtain ⟨d, st1, h1, a1, a2, g1⟩ := digit_ok (K := K) (A := A) (b := 26) g (by decide) (by decide)
    obtain ⟨m, rfl⟩ := Int.eq_ofNat_of_zero_le a1
    have hm : m < 26 := by omega
    have hm2 : m < ("abcdefghijklmnopqrstuvwxyz" : Str).cps.toList.length := by rw [len26]; exact hm
    have hat : atI ("abcdefghijklmnopqrstuvwxyz" : Str).cps.toList (m : Int) = some (("abcdefghijklmnopqrstuvwxyz" : Str).cps.toList[m]) := by
      rw [atI_nat hm2]; simp [hm2]
    have hb : B0__law_name K A ⟨[.arg 0, .val (.str z), .val (D.int (0 + (k : Int)))], [some (St st)]⟩ = .nx ⟨[.arg 0, .val (.str (z ++ ⟨#[("abcdefghijklmnopqrstuvwxyz" : Str).cps.toList[m]]⟩)), .no], [some (St st1)]⟩ := by
      unfold B0__law_name
      have hz : z.length + (⟨#[("abcdefghijklmnopqrstuvwxyz" : Str).cps.toList[m]]⟩ : Str).length ≤ sizeLine := Nat.le_trans (show _ ≤ 9 by show z.length + 1 ≤ 9; omega) (by decide)
      simp -implicitDefEqProofs only [bind_ok, bind_ex, bind_no, pure_ok, pure_ex, pure_no, seqE_ok, seqE_ex, seqE_no, seqS_nx, seqS_rt, seqS_ex, seqS_bk, seqS_ct, seqS_no, sNext_ap, sBreak_ap, sCont_ap, sRetN_ap, sSeq_ap, sDrop_ap, sRet_ap, sSet_ap, sIf_ap, condS_t, condS_f, sKillO_ap, killO_nx, killO_bk, killO_ct, killO_rt, killO_ex, kill_cons, kill_nil, sAsg_ap, asgK_ap, sRaise_ap, sFor_ap, forK_ap, setS_mk, setA_mk, look_mk, lookS_val, lookS_arg, qV_ap, oD_some, lc_mk, lcS_val, lcS_arg, get_s, get_a, rm_s, rm_a, put_s, put_a, view_mk, Sl.view_val, Sl.view_arg, Sl.view_no, wipe_nil, wipe_cons, qC_ap, qOp_ap, qUn_ap, qCB_ap, aNil_ap, aCons_ap, tV_ap, tNot_ap, tAnd_ap, tOr_ap, condT_y, condT_tf, condT_ft, tYes_ap, qNot_ap, qAnd_ap, qOr_ap, condQ_y, condQ_tf, condQ_ft, qIf_ap, pickQ_t, pickQ_f, qTup_ap, qLst_ap, qFld_ap, oNone_ap, oSome_ap, qSl_ap, qLc_ap, iSeq_ap, iRange_ap, qCall_ap, qMeth_ap, qM1_ap, gQ_ap, liftO_ok, liftO_ex, gQT_ap, liftT_ok, liftT_ex, gMove_mk, gFz_mk, gOp_ap, gOpK_ap, gUn_ap, gCB_ap, finG_ok, gNil_ap, gCons_ap, gConsK_ap, lNil_ap, lCons_ap, lConsK_ap, gTupL_ap, gLstL_ap, gSt_ap, gTV_ap, gNot_ap, gAnd_ap, gOr_ap, condG_y, condG_tf, condG_ft, gIf_ap, pickG_t, pickG_f, giSeq_ap, giRange_ap, ofOG_some, ofO_some, gCall_ap, gCallK_ap, afterG_rt, afterG_ex, gMake_ap, gMakeK_ap, makeG_rt, makeG_ex, gLm_ap, isLst_ap, gLmK_ap, pNm_ap, pNmK_some, fnF_ap, finF_rt, finF_nx, finF_ex, sSubL_ap, subK_ap, faQ_ap, faQK_some, startP, stS, stA, okA, takeH, evalA, exP, Ag.sl, putH, toB, toI, lenV_ap, lenN_l, lenN_t, addV_i, subV_i, mulV_i, fdivV_i, modV_i, ltV_i, leV_i, gtV_i, geV_i, negV_i, eqV_i, eqV_s, eqV_b, neV_i, neV_s, neV_b, addV_s, addV_l, addV_t, ixV_t, ixV_tk, ixV_l, ixV_s, at_0, at_1, at_2, at_3, ix_0, ix_1, ix_2, decide_true, decide_false, mkTup, mkLst, mkTupG, mkLstG, fAppend, fExtend, fInsert, fClear, fPop, fRev, mkLc, D.free, D.up, D.st, D.view, D.fz, D.mapF, D.mapFL, viewF, fzF, D.noOwn, D.noBor, D.kept, D.allF, D.allFL, ownF, borF, keepF, List.map_cons, List.map_nil, List.length_cons, List.length_nil, List.length_map, List.replicate, List.cons_append, List.nil_append, List.append_nil, List.getElem?_cons_zero, List.getElem?_cons_succ, List.getElem?_nil, List.set_cons_zero, List.set_cons_succ, List.set_nil, Option.bind_some, Option.bind_none, Option.map_some, Option.map_none, id, Nat.zero_add, Nat.reduceAdd, Nat.reduceSub, Nat.sub_self, Nat.sub_zero, if_true, if_false, Bool.false_eq_true, Bool.and_true, Bool.true_and, Bool.not_true, Bool.not_false, and_true, true_and, and_self, reduceCtorEq, ne_eq, not_false_eq_true, sz_le, sz_lt, Nat.reduceLeDiff, ints_all, strs_all, callQ_ap, callK_some, giveQ_nil, giveQ_r, giveQ_k, resQ_rt, resQ_ex, q_str, q_int, q_bl, q_non, q_tup, q_lst, q_dic, q_dit, q_obj, qChain_ap, lenN_s, listV_t, listV_l, listV_d, tupleV_l, lenN_d, ixV_d, slV_l, all_true, ints_mp, strs_mp, fldD_ap, sFldF_ap, rndK_nx, rndK_ct, rndK_bk, rndK_rt, rndK_ex, forV_cons, forV_nil, sForMv_ap, mvK_some, pFld_ap, pFldK_o, pIx_ap, pIxK_l, pIxK_t, pIxK_d, gLmP_ap, gLmPK_ok, gLmPK_ex, mqNil_ap, mqCons_ap, Function.comp_apply, Function.comp_id, Function.id_comp, neV_strs, h1, len26', hat, hz]
    rw [List.range'_succ, List.map_cons, forV_nx put_nm hb]
    obtain ⟨z', st', h, g', l', e'⟩ := name_loop n (k + 1) _ st1 g1 (cat_low lz (List.getElem_mem hm2)) (by rw [cat_len]; omega)
    exact ⟨z', st', h, g', l', by rw [e', cat_len]; omega⟩
theorem name_ok {st : List Int} (g : Good st) : ∃ z st', F__law_name K A [St st] = .rt (.str z) [some (St st')] ∧ Good st' ∧ Nm z := by
  unfold F__law_name
  obtain ⟨d, st1, h1, a1, a2, g1⟩ := digit_ok (K := K) (A := A) (b := 8) g (by decide) (by decide)
  obtain ⟨m, rfl⟩ := Int.eq_ofNat_of_zero_le a1
  have e1 : (1 : Int) + (m : Int) = ((1 + m : Nat) : Int) := by omega
  obtain ⟨z, st2, h2, g2, l2, e2⟩ := name_loop (K := K) (A := A) (1 + m) 0 "" st1 g1 (fun c mc => by rw [s0l] at mc; cases mc) (by rw [s0]; omega)
  have hr : rng1 [.int ((1 + m : Nat) : Int)] = some (rngD 0 (1 + m)) := rng1_ap (by omega)
  simp -implicitDefEqProofs only [bind_ok, bind_ex, bind_no, pure_ok, pure_ex, pure_no, seqE_ok, seqE_ex, seqE_no, seqS_nx, seqS_rt, seqS_ex, seqS_bk, seqS_ct, seqS_no, sNext_ap, sBreak_ap, sCont_ap, sRetN_ap, sSeq_ap, sDrop_ap, sRet_ap, sSet_ap, sIf_ap, condS_t, condS_f, sKillO_ap, killO_nx, killO_bk, killO_ct, killO_rt, killO_ex, kill_cons, kill_nil, sAsg_ap, asgK_ap, sRaise_ap, sFor_ap, forK_ap, setS_mk, setA_mk, look_mk, lookS_val, lookS_arg, qV_ap, oD_some, lc_mk, lcS_val, lcS_arg, get_s, get_a, rm_s, rm_a, put_s, put_a, view_mk, Sl.view_val, Sl.view_arg, Sl.view_no, wipe_nil, wipe_cons, qC_ap, qOp_ap, qUn_ap, qCB_ap, aNil_ap, aCons_ap, tV_ap, tNot_ap, tAnd_ap, tOr_ap, condT_y, condT_tf, condT_ft, tYes_ap, qNot_ap, qAnd_ap, qOr_ap, condQ_y, condQ_tf, condQ_ft, qIf_ap, pickQ_t, pickQ_f, qTup_ap, qLst_ap, qFld_ap, oNone_ap, oSome_ap, qSl_ap, qLc_ap, iSeq_ap, iRange_ap, qCall_ap, qMeth_ap, qM1_ap, gQ_ap, liftO_ok, liftO_ex, gQT_ap, liftT_ok, liftT_ex, gMove_mk, gFz_mk, gOp_ap, gOpK_ap, gUn_ap, gCB_ap, finG_ok, gNil_ap, gCons_ap, gConsK_ap, lNil_ap, lCons_ap, lConsK_ap, gTupL_ap, gLstL_ap, gSt_ap, gTV_ap, gNot_ap, gAnd_ap, gOr_ap, condG_y, condG_tf, condG_ft, gIf_ap, pickG_t, pickG_f, giSeq_ap, giRange_ap, ofOG_some, ofO_some, gCall_ap, gCallK_ap, afterG_rt, afterG_ex, gMake_ap, gMakeK_ap, makeG_rt, makeG_ex, gLm_ap, isLst_ap, gLmK_ap, pNm_ap, pNmK_some, fnF_ap, finF_rt, finF_nx, finF_ex, sSubL_ap, subK_ap, faQ_ap, faQK_some, startP, stS, stA, okA, takeH, evalA, exP, Ag.sl, putH, toB, toI, lenV_ap, lenN_l, lenN_t, addV_i, subV_i, mulV_i, fdivV_i, modV_i, ltV_i, leV_i, gtV_i, geV_i, negV_i, eqV_i, eqV_s, eqV_b, neV_i, neV_s, neV_b, addV_s, addV_l, addV_t, ixV_t, ixV_tk, ixV_l, ixV_s, at_0, at_1, at_2, at_3, ix_0, ix_1, ix_2, decide_true, decide_false, mkTup, mkLst, mkTupG, mkLstG, fAppend, fExtend, fInsert, fClear, fPop, fRev, mkLc, D.free, D.up, D.st, D.view, D.fz, D.mapF, D.mapFL, viewF, fzF, D.noOwn, D.noBor, D.kept, D.allF, D.allFL, ownF, borF, keepF, List.map_cons, List.map_nil, List.length_cons, List.length_nil, List.length_map, List.replicate, List.cons_append, List.nil_append, List.append_nil, List.getElem?_cons_zero, List.getElem?_cons_succ, List.getElem?_nil, List.set_cons_zero, List.set_cons_succ, List.set_nil, Option.bind_some, Option.bind_none, Option.map_some, Option.map_none, id, Nat.zero_add, Nat.reduceAdd, Nat.reduceSub, Nat.sub_self, Nat.sub_zero, if_true, if_false, Bool.false_eq_true, Bool.and_true, Bool.true_and, Bool.not_true, Bool.not_false, and_true, true_and, and_self, reduceCtorEq, ne_eq, not_false_eq_true, sz_le, sz_lt, Nat.reduceLeDiff, ints_all, strs_all, callQ_ap, callK_some, giveQ_nil, giveQ_r, giveQ_k, resQ_rt, resQ_ex, q_str, q_int, q_bl, q_non, q_tup, q_lst, q_dic, q_dit, q_obj, qChain_ap, lenN_s, listV_t, listV_l, listV_d, tupleV_l, lenN_d, ixV_d, slV_l, all_true, ints_mp, strs_mp, fldD_ap, sFldF_ap, rndK_nx, rndK_ct, rndK_bk, rndK_rt, rndK_ex, forV_cons, forV_nil, sForMv_ap, mvK_some, pFld_ap, pFldK_o, pIx_ap, pIxK_l, pIxK_t, pIxK_d, gLmP_ap, gLmPK_ok, gLmPK_ex, mqNil_ap, mqCons_ap, Function.comp_apply, Function.comp_id, Function.id_comp, neV_strs, h1, e1, hr]
  unfold rngD
  rw [List.range_eq_range', h2]
  simp -implicitDefEqProofs only [bind_ok, bind_ex, bind_no, pure_ok, pure_ex, pure_no, seqE_ok, seqE_ex, seqE_no, seqS_nx, seqS_rt, seqS_ex, seqS_bk, seqS_ct, seqS_no, sNext_ap, sBreak_ap, sCont_ap, sRetN_ap, sSeq_ap, sDrop_ap, sRet_ap, sSet_ap, sIf_ap, condS_t, condS_f, sKillO_ap, killO_nx, killO_bk, killO_ct, killO_rt, killO_ex, kill_cons, kill_nil, sAsg_ap, asgK_ap, sRaise_ap, sFor_ap, forK_ap, setS_mk, setA_mk, look_mk, lookS_val, lookS_arg, qV_ap, oD_some, lc_mk, lcS_val, lcS_arg, get_s, get_a, rm_s, rm_a, put_s, put_a, view_mk, Sl.view_val, Sl.view_arg, Sl.view_no, wipe_nil, wipe_cons, qC_ap, qOp_ap, qUn_ap, qCB_ap, aNil_ap, aCons_ap, tV_ap, tNot_ap, tAnd_ap, tOr_ap, condT_y, condT_tf, condT_ft, tYes_ap, qNot_ap, qAnd_ap, qOr_ap, condQ_y, condQ_tf, condQ_ft, qIf_ap, pickQ_t, pickQ_f, qTup_ap, qLst_ap, qFld_ap, oNone_ap, oSome_ap, qSl_ap, qLc_ap, iSeq_ap, iRange_ap, qCall_ap, qMeth_ap, qM1_ap, gQ_ap, liftO_ok, liftO_ex, gQT_ap, liftT_ok, liftT_ex, gMove_mk, gFz_mk, gOp_ap, gOpK_ap, gUn_ap, gCB_ap, finG_ok, gNil_ap, gCons_ap, gConsK_ap, lNil_ap, lCons_ap, lConsK_ap, gTupL_ap, gLstL_ap, gSt_ap, gTV_ap, gNot_ap, gAnd_ap, gOr_ap, condG_y, condG_tf, condG_ft, gIf_ap, pickG_t, pickG_f, giSeq_ap, giRange_ap, ofOG_some, ofO_some, gCall_ap, gCallK_ap, afterG_rt, afterG_ex, gMake_ap, gMakeK_ap, makeG_rt, makeG_ex, gLm_ap, isLst_ap, gLmK_ap, pNm_ap, pNmK_some, fnF_ap, finF_rt, finF_nx, finF_ex, sSubL_ap, subK_ap, faQ_ap, faQK_some, startP, stS, stA, okA, takeH, evalA, exP, Ag.sl, putH, toB, toI, lenV_ap, lenN_l, lenN_t, addV_i, subV_i, mulV_i, fdivV_i, modV_i, ltV_i, leV_i, gtV_i, geV_i, negV_i, eqV_i, eqV_s, eqV_b, neV_i, neV_s, neV_b, addV_s, addV_l, addV_t, ixV_t, ixV_tk, ixV_l, ixV_s, at_0, at_1, at_2, at_3, ix_0, ix_1, ix_2, decide_true, decide_false, mkTup, mkLst, mkTupG, mkLstG, fAppend, fExtend, fInsert, fClear, fPop, fRev, mkLc, D.free, D.up, D.st, D.view, D.fz, D.mapF, D.mapFL, viewF, fzF, D.noOwn, D.noBor, D.kept, D.allF, D.allFL, ownF, borF, keepF, List.map_cons, List.map_nil, List.length_cons, List.length_nil, List.length_map, List.replicate, List.cons_append, List.nil_append, List.append_nil, List.getElem?_cons_zero, List.getElem?_cons_succ, List.getElem?_nil, List.set_cons_zero, List.set_cons_succ, List.set_nil, Option.bind_some, Option.bind_none, Option.map_some, Option.map_none, id, Nat.zero_add, Nat.reduceAdd, Nat.reduceSub, Nat.sub_self, Nat.sub_zero, if_true, if_false, Bool.false_eq_true, Bool.and_true, Bool.true_and, Bool.not_true, Bool.not_false, and_true, true_and, and_self, reduceCtorEq, ne_eq, not_false_eq_true, sz_le, sz_lt, Nat.reduceLeDiff, ints_all, strs_all, callQ_ap, callK_some, giveQ_nil, giveQ_r, giveQ_k, resQ_rt, resQ_ex, q_str, q_int, q_bl, q_non, q_tup, q_lst, q_dic, q_dit, q_obj, qChain_ap, lenN_s, listV_t, listV_l, listV_d, tupleV_l, lenN_d, ixV_d, slV_l, all_true, ints_mp, strs_mp, fldD_ap, sFldF_ap, rndK_nx, rndK_ct, rndK_bk, rndK_rt, rndK_ex, forV_cons, forV_nil, sForMv_ap, mvK_some, pFld_ap, pFldK_o, pIx_ap, pIxK_l, pIxK_t, pIxK_d, gLmP_ap, gLmPK_ok, gLmPK_ex, mqNil_ap, mqCons_ap, Function.comp_apply, Function.comp_id, Function.id_comp, neV_strs]
  exact ⟨z, st2, rfl, g2, by rw [e2, s0]; omega, by rw [e2, s0]; omega, l2⟩
/-! ### hands -/
theorem HOk.put {hs : List (Str × Int)} (h : HOk hs) {z : Str} {s : Int} (hz : z ∉ hs.map (·.1)) (nm : Nm z) (h1 : 1 ≤ s) (h2 : s ≤ 1000) (i : Nat) : HOk (hs.take i ++ [(z, s)] ++ hs.drop i) := by
  have p : (hs.take i ++ [(z, s)] ++ hs.drop i).Perm ((z, s) :: hs) := by
    have : (hs.take i ++ [(z, s)] ++ hs.drop i).Perm ([(z, s)] ++ hs.take i ++ hs.drop i) := List.perm_append_comm.append_right _
    rw [List.append_assoc [(z, s)], List.take_append_drop] at this
    exact this
  refine ⟨(p.map _).symm.nodup (by simpa using ⟨by simpa using hz, h.nd⟩), fun e m => ?_⟩
  rcases List.mem_cons.mp (p.subset m) with rfl | m
  · exact ⟨nm, h1, h2⟩
  · exact h.nm e m
theorem hands_round {st : List Int} {hs : List (Str × Int)} {most k : D} (g : Good st) (h : HOk hs) (hl : hs.length ≤ 8) : ∃ hs' st', B0__law_hands K A ⟨[.arg 0, .val most, .val (eH .own hs), .val k, .no, .no, .no], [some (St st), none]⟩ = .nx ⟨[.arg 0, .val most, .val (eH .own hs'), .no, .no, .no, .no], [some (St st'), none]⟩ ∧ Good st' ∧ HOk hs' ∧ hs'.length ≤ hs.length + 1 ∧ 1 ≤ hs'.length := by
  obtain ⟨z, st1, h1, g1, nz⟩ := name_ok (K := K) (A := A) g
  have cv : ∀ ρ : Plc, ρ.s.length = 7 → compV (.tp [.nm 6, .nm 5]) tYes (qV 6) ρ (hs.map eP) = .ok ((hs.map (·.1)).map D.str) := fun ρ hρ => by
    rw [List.map_map]
    refine compV_map hs fun e m => ?_
    obtain ⟨s, a⟩ := ρ
    match s, hρ with
    | [x0, x1, x2, x3, x4, x5, x6], _ => exact ⟨_, rfl, rfl, rfl, rfl, rfl⟩
  have lc : (((hs.map (·.1)).map D.str).length ≤ sizeLine) := by simp; exact Nat.le_trans hl (by decide)
  have lc2 : hs.length ≤ sizeLine := Nat.le_trans hl (by decide)
  have c7 : ∀ {s : List Sl} {a : List (Option D)}, s.length = 7 → compV (.tp [.nm 6, .nm 5]) tYes (qV 6) ⟨s, a⟩ (hs.map eP) = .ok ((hs.map (·.1)).map D.str) := fun h => cv _ h
  unfold B0__law_hands
  by_cases hz : z ∈ hs.map (·.1)
  · refine ⟨hs, st1, ?_, g1, h, by omega, by cases hs with
      | nil => simp at hz
      | cons _ _ => simp⟩
    have c7' := c7 (s := [.arg 0, .val most, .val (eH .own hs), .val k, .val (.str z), .no, .no]) (a := [some (St st1), none]) rfl
    simp -implicitDefEqProofs only [bind_ok, bind_ex, bind_no, pure_ok, pure_ex, pure_no, seqE_ok, seqE_ex, seqE_no, seqS_nx, seqS_rt, seqS_ex, seqS_bk, seqS_ct, seqS_no, sNext_ap, sBreak_ap, sCont_ap, sRetN_ap, sSeq_ap, sDrop_ap, sRet_ap, sSet_ap, sIf_ap, condS_t, condS_f, sKillO_ap, killO_nx, killO_bk, killO_ct, killO_rt, killO_ex, kill_cons, kill_nil, sAsg_ap, asgK_ap, sRaise_ap, sFor_ap, forK_ap, setS_mk, setA_mk, look_mk, lookS_val, lookS_arg, qV_ap, oD_some, lc_mk, lcS_val, lcS_arg, get_s, get_a, rm_s, rm_a, put_s, put_a, view_mk, Sl.view_val, Sl.view_arg, Sl.view_no, wipe_nil, wipe_cons, qC_ap, qOp_ap, qUn_ap, qCB_ap, aNil_ap, aCons_ap, tV_ap, tNot_ap, tAnd_ap, tOr_ap, condT_y, condT_tf, condT_ft, tYes_ap, qNot_ap, qAnd_ap, qOr_ap, condQ_y, condQ_tf, condQ_ft, qIf_ap, pickQ_t, pickQ_f, qTup_ap, qLst_ap, qFld_ap, oNone_ap, oSome_ap, qSl_ap, qLc_ap, iSeq_ap, iRange_ap, qCall_ap, qMeth_ap, qM1_ap, gQ_ap, liftO_ok, liftO_ex, gQT_ap, liftT_ok, liftT_ex, gMove_mk, gFz_mk, gOp_ap, gOpK_ap, gUn_ap, gCB_ap, finG_ok, gNil_ap, gCons_ap, gConsK_ap, lNil_ap, lCons_ap, lConsK_ap, gTupL_ap, gLstL_ap, gSt_ap, gTV_ap, gNot_ap, gAnd_ap, gOr_ap, condG_y, condG_tf, condG_ft, gIf_ap, pickG_t, pickG_f, giSeq_ap, giRange_ap, ofOG_some, ofO_some, gCall_ap, gCallK_ap, afterG_rt, afterG_ex, gMake_ap, gMakeK_ap, makeG_rt, makeG_ex, gLm_ap, isLst_ap, gLmK_ap, pNm_ap, pNmK_some, fnF_ap, finF_rt, finF_nx, finF_ex, sSubL_ap, subK_ap, faQ_ap, faQK_some, startP, stS, stA, okA, takeH, evalA, exP, Ag.sl, putH, toB, toI, lenV_ap, lenN_l, lenN_t, addV_i, subV_i, mulV_i, fdivV_i, modV_i, ltV_i, leV_i, gtV_i, geV_i, negV_i, eqV_i, eqV_s, eqV_b, neV_i, neV_s, neV_b, addV_s, addV_l, addV_t, ixV_t, ixV_tk, ixV_l, ixV_s, at_0, at_1, at_2, at_3, ix_0, ix_1, ix_2, decide_true, decide_false, mkTup, mkLst, mkTupG, mkLstG, fAppend, fExtend, fInsert, fClear, fPop, fRev, mkLc, D.free, D.up, D.st, D.view, D.fz, D.mapF, D.mapFL, viewF, fzF, D.noOwn, D.noBor, D.kept, D.allF, D.allFL, ownF, borF, keepF, List.map_cons, List.map_nil, List.length_cons, List.length_nil, List.length_map, List.replicate, List.cons_append, List.nil_append, List.append_nil, List.getElem?_cons_zero, List.getElem?_cons_succ, List.getElem?_nil, List.set_cons_zero, List.set_cons_succ, List.set_nil, Option.bind_some, Option.bind_none, Option.map_some, Option.map_none, id, Nat.zero_add, Nat.reduceAdd, Nat.reduceSub, Nat.sub_self, Nat.sub_zero, if_true, if_false, Bool.false_eq_true, Bool.and_true, Bool.true_and, Bool.not_true, Bool.not_false, and_true, true_and, and_self, reduceCtorEq, ne_eq, not_false_eq_true, sz_le, sz_lt, Nat.reduceLeDiff, ints_all, strs_all, callQ_ap, callK_some, giveQ_nil, giveQ_r, giveQ_k, resQ_rt, resQ_ex, q_str, q_int, q_bl, q_non, q_tup, q_lst, q_dic, q_dit, q_obj, qChain_ap, lenN_s, listV_t, listV_l, listV_d, tupleV_l, lenN_d, ixV_d, slV_l, all_true, ints_mp, strs_mp, fldD_ap, sFldF_ap, rndK_nx, rndK_ct, rndK_bk, rndK_rt, rndK_ex, forV_cons, forV_nil, sForMv_ap, mvK_some, pFld_ap, pFldK_o, pIx_ap, pIxK_l, pIxK_t, pIxK_d, gLmP_ap, gLmPK_ok, gLmPK_ex, mqNil_ap, mqCons_ap, Function.comp_apply, Function.comp_id, Function.id_comp, neV_strs, h1, itemsD, c7', ninU_strs, lc2, decide_eq_true hz]
  · have c7' := c7 (s := [.arg 0, .val most, .val (eH .own hs), .val k, .val (.str z), .no, .no]) (a := [some (St st1), none]) rfl
    obtain ⟨a, st2, h2, a1, a2, g2⟩ := digit_ok (K := K) (A := A) (b := 9) g1 (by decide) (by decide)
    obtain ⟨b, st3, h3, b1, b2, g3⟩ := digit_ok (K := K) (A := A) (b := 1000) g2 (by decide) (by decide)
    obtain ⟨c, st4, h4, c1, c2, g4⟩ := digit_ok (K := K) (A := A) (b := 4) g3 (by decide) (by decide)
    obtain ⟨d, st5, h5, d1, d2, g5⟩ := digit_ok (K := K) (A := A) (b := (hs.length : Int) + 1) g4 (by omega) (by omega)
    obtain ⟨c, rfl⟩ := Int.eq_ofNat_of_zero_le c1
    obtain ⟨d, rfl⟩ := Int.eq_ofNat_of_zero_le d1
    obtain ⟨s, hs4, s1, s2⟩ : ∃ s : Int, atI [D.int 1, .int (1 + a), .int (1 + b), .int 1000] (c : Int) = some (.int s) ∧ 1 ≤ s ∧ s ≤ 1000 := by
      have : c = 0 ∨ c = 1 ∨ c = 2 ∨ c = 3 := by omega
      rcases this with rfl | rfl | rfl | rfl
      · exact ⟨_, at_0, by omega, by omega⟩
      · exact ⟨_, at_1, by omega, by omega⟩
      · exact ⟨_, at_2, by omega, by omega⟩
      · exact ⟨_, at_3, by omega, by omega⟩
    have hi : (hs.length < sizeLine ∧ 0 ≤ (d : Int) ∧ (d : Int) < 2 ^ 63) = True := eq_true ⟨Nat.lt_of_le_of_lt hl (by decide), by omega, by omega⟩
    refine ⟨hs.take d ++ [(z, s)] ++ hs.drop d, st5, ?_, g5, h.put hz nz s1 s2 d, by simp; omega, by simp; omega⟩
    simp -implicitDefEqProofs only [bind_ok, bind_ex, bind_no, pure_ok, pure_ex, pure_no, seqE_ok, seqE_ex, seqE_no, seqS_nx, seqS_rt, seqS_ex, seqS_bk, seqS_ct, seqS_no, sNext_ap, sBreak_ap, sCont_ap, sRetN_ap, sSeq_ap, sDrop_ap, sRet_ap, sSet_ap, sIf_ap, condS_t, condS_f, sKillO_ap, killO_nx, killO_bk, killO_ct, killO_rt, killO_ex, kill_cons, kill_nil, sAsg_ap, asgK_ap, sRaise_ap, sFor_ap, forK_ap, setS_mk, setA_mk, look_mk, lookS_val, lookS_arg, qV_ap, oD_some, lc_mk, lcS_val, lcS_arg, get_s, get_a, rm_s, rm_a, put_s, put_a, view_mk, Sl.view_val, Sl.view_arg, Sl.view_no, wipe_nil, wipe_cons, qC_ap, qOp_ap, qUn_ap, qCB_ap, aNil_ap, aCons_ap, tV_ap, tNot_ap, tAnd_ap, tOr_ap, condT_y, condT_tf, condT_ft, tYes_ap, qNot_ap, qAnd_ap, qOr_ap, condQ_y, condQ_tf, condQ_ft, qIf_ap, pickQ_t, pickQ_f, qTup_ap, qLst_ap, qFld_ap, oNone_ap, oSome_ap, qSl_ap, qLc_ap, iSeq_ap, iRange_ap, qCall_ap, qMeth_ap, qM1_ap, gQ_ap, liftO_ok, liftO_ex, gQT_ap, liftT_ok, liftT_ex, gMove_mk, gFz_mk, gOp_ap, gOpK_ap, gUn_ap, gCB_ap, finG_ok, gNil_ap, gCons_ap, gConsK_ap, lNil_ap, lCons_ap, lConsK_ap, gTupL_ap, gLstL_ap, gSt_ap, gTV_ap, gNot_ap, gAnd_ap, gOr_ap, condG_y, condG_tf, condG_ft, gIf_ap, pickG_t, pickG_f, giSeq_ap, giRange_ap, ofOG_some, ofO_some, gCall_ap, gCallK_ap, afterG_rt, afterG_ex, gMake_ap, gMakeK_ap, makeG_rt, makeG_ex, gLm_ap, isLst_ap, gLmK_ap, pNm_ap, pNmK_some, fnF_ap, finF_rt, finF_nx, finF_ex, sSubL_ap, subK_ap, faQ_ap, faQK_some, startP, stS, stA, okA, takeH, evalA, exP, Ag.sl, putH, toB, toI, lenV_ap, lenN_l, lenN_t, addV_i, subV_i, mulV_i, fdivV_i, modV_i, ltV_i, leV_i, gtV_i, geV_i, negV_i, eqV_i, eqV_s, eqV_b, neV_i, neV_s, neV_b, addV_s, addV_l, addV_t, ixV_t, ixV_tk, ixV_l, ixV_s, at_0, at_1, at_2, at_3, ix_0, ix_1, ix_2, decide_true, decide_false, mkTup, mkLst, mkTupG, mkLstG, fAppend, fExtend, fInsert, fClear, fPop, fRev, mkLc, D.free, D.up, D.st, D.view, D.fz, D.mapF, D.mapFL, viewF, fzF, D.noOwn, D.noBor, D.kept, D.allF, D.allFL, ownF, borF, keepF, List.map_cons, List.map_nil, List.length_cons, List.length_nil, List.length_map, List.replicate, List.cons_append, List.nil_append, List.append_nil, List.getElem?_cons_zero, List.getElem?_cons_succ, List.getElem?_nil, List.set_cons_zero, List.set_cons_succ, List.set_nil, Option.bind_some, Option.bind_none, Option.map_some, Option.map_none, id, Nat.zero_add, Nat.reduceAdd, Nat.reduceSub, Nat.sub_self, Nat.sub_zero, if_true, if_false, Bool.false_eq_true, Bool.and_true, Bool.true_and, Bool.not_true, Bool.not_false, and_true, true_and, and_self, reduceCtorEq, ne_eq, not_false_eq_true, sz_le, sz_lt, Nat.reduceLeDiff, ints_all, strs_all, callQ_ap, callK_some, giveQ_nil, giveQ_r, giveQ_k, resQ_rt, resQ_ex, q_str, q_int, q_bl, q_non, q_tup, q_lst, q_dic, q_dit, q_obj, qChain_ap, lenN_s, listV_t, listV_l, listV_d, tupleV_l, lenN_d, ixV_d, slV_l, all_true, ints_mp, strs_mp, fldD_ap, sFldF_ap, rndK_nx, rndK_ct, rndK_bk, rndK_rt, rndK_ex, forV_cons, forV_nil, sForMv_ap, mvK_some, pFld_ap, pFldK_o, pIx_ap, pIxK_l, pIxK_t, pIxK_d, gLmP_ap, gLmPK_ok, gLmPK_ex, mqNil_ap, mqCons_ap, Function.comp_apply, Function.comp_id, Function.id_comp, neV_strs, h1, itemsD, c7', ninU_strs, lc2, decide_eq_false hz, h2, h3, h4, h5, hs4, hi, ePs_all, ePs_map]
    simp [List.map_take, List.map_drop]
theorem hands_loop {most : D} : ∀ (n k : Nat) (hs : List (Str × Int)) (st : List Int), Good st → HOk hs → hs.length + n ≤ 8 → ∃ hs' st', forV (.nm 3) (B0__law_hands K A) ((List.range' k n).map fun i : Nat => D.int (0 + (i : Int))) ⟨[.arg 0, .val most, .val (eH .own hs), .no, .no, .no, .no], [some (St st), none]⟩ = .nx ⟨[.arg 0, .val most, .val (eH .own hs'), .no, .no, .no, .no], [some (St st'), none]⟩ ∧ Good st' ∧ HOk hs' ∧ hs'.length ≤ hs.length + n ∧ (1 ≤ n → 1 ≤ hs'.length) ∧ (1 ≤ hs.length → 1 ≤ hs'.length)
  | 0, k, hs, st, g, h, hl => ⟨hs, st, rfl, g, h, by omega, fun z => by omega, fun z => z⟩
  | n + 1, k, hs, st, g, h, hl => by
    obtain ⟨hs1, st1, h1, g1, o1, l1, l2⟩ := hands_round (K := K) (A := A) (most := most) (k := .int (0 + (k : Int))) g h (by omega)
    rw [List.range'_succ, List.map_cons, forV_nx put_nm h1]
    obtain ⟨hs2, st2, h2, g2, o2, l3, l4, l5⟩ := hands_loop n (k + 1) hs1 st1 g1 o1 (by omega)
    exact ⟨hs2, st2, h2, g2, o2, by omega, fun _ => l5 l2, fun _ => l5 l2⟩
theorem hands_ok {st : List Int} (g : Good st) : ∃ hs st', F__law_hands K A [St st, .int 8] = .rt (eH .own hs) [some (St st'), none] ∧ Good st' ∧ HOk hs ∧ 1 ≤ hs.length ∧ hs.length ≤ 8 := by
  unfold F__law_hands
  obtain ⟨d, st1, h1, a1, a2, g1⟩ := digit_ok (K := K) (A := A) (b := 8) g (by decide) (by decide)
  obtain ⟨m, rfl⟩ := Int.eq_ofNat_of_zero_le a1
  have e1 : (1 : Int) + (m : Int) = ((1 + m : Nat) : Int) := by omega
  obtain ⟨hs, st2, h2, g2, o2, l1, l2, _⟩ := hands_loop (K := K) (A := A) (most := .int 8) (1 + m) 0 [] st1 g1 ⟨.nil, fun e m => by cases m⟩ (by simp; omega)
  have hr : rng1 [.int ((1 + m : Nat) : Int)] = some (rngD 0 (1 + m)) := rng1_ap (by omega)
  simp -implicitDefEqProofs only [bind_ok, bind_ex, bind_no, pure_ok, pure_ex, pure_no, seqE_ok, seqE_ex, seqE_no, seqS_nx, seqS_rt, seqS_ex, seqS_bk, seqS_ct, seqS_no, sNext_ap, sBreak_ap, sCont_ap, sRetN_ap, sSeq_ap, sDrop_ap, sRet_ap, sSet_ap, sIf_ap, condS_t, condS_f, sKillO_ap, killO_nx, killO_bk, killO_ct, killO_rt, killO_ex, kill_cons, kill_nil, sAsg_ap, asgK_ap, sRaise_ap, sFor_ap, forK_ap, setS_mk, setA_mk, look_mk, lookS_val, lookS_arg, qV_ap, oD_some, lc_mk, lcS_val, lcS_arg, get_s, get_a, rm_s, rm_a, put_s, put_a, view_mk, Sl.view_val, Sl.view_arg, Sl.view_no, wipe_nil, wipe_cons, qC_ap, qOp_ap, qUn_ap, qCB_ap, aNil_ap, aCons_ap, tV_ap, tNot_ap, tAnd_ap, tOr_ap, condT_y, condT_tf, condT_ft, tYes_ap, qNot_ap, qAnd_ap, qOr_ap, condQ_y, condQ_tf, condQ_ft, qIf_ap, pickQ_t, pickQ_f, qTup_ap, qLst_ap, qFld_ap, oNone_ap, oSome_ap, qSl_ap, qLc_ap, iSeq_ap, iRange_ap, qCall_ap, qMeth_ap, qM1_ap, gQ_ap, liftO_ok, liftO_ex, gQT_ap, liftT_ok, liftT_ex, gMove_mk, gFz_mk, gOp_ap, gOpK_ap, gUn_ap, gCB_ap, finG_ok, gNil_ap, gCons_ap, gConsK_ap, lNil_ap, lCons_ap, lConsK_ap, gTupL_ap, gLstL_ap, gSt_ap, gTV_ap, gNot_ap, gAnd_ap, gOr_ap, condG_y, condG_tf, condG_ft, gIf_ap, pickG_t, pickG_f, giSeq_ap, giRange_ap, ofOG_some, ofO_some, gCall_ap, gCallK_ap, afterG_rt, afterG_ex, gMake_ap, gMakeK_ap, makeG_rt, makeG_ex, gLm_ap, isLst_ap, gLmK_ap, pNm_ap, pNmK_some, fnF_ap, finF_rt, finF_nx, finF_ex, sSubL_ap, subK_ap, faQ_ap, faQK_some, startP, stS, stA, okA, takeH, evalA, exP, Ag.sl, putH, toB, toI, lenV_ap, lenN_l, lenN_t, addV_i, subV_i, mulV_i, fdivV_i, modV_i, ltV_i, leV_i, gtV_i, geV_i, negV_i, eqV_i, eqV_s, eqV_b, neV_i, neV_s, neV_b, addV_s, addV_l, addV_t, ixV_t, ixV_tk, ixV_l, ixV_s, at_0, at_1, at_2, at_3, ix_0, ix_1, ix_2, decide_true, decide_false, mkTup, mkLst, mkTupG, mkLstG, fAppend, fExtend, fInsert, fClear, fPop, fRev, mkLc, D.free, D.up, D.st, D.view, D.fz, D.mapF, D.mapFL, viewF, fzF, D.noOwn, D.noBor, D.kept, D.allF, D.allFL, ownF, borF, keepF, List.map_cons, List.map_nil, List.length_cons, List.length_nil, List.length_map, List.replicate, List.cons_append, List.nil_append, List.append_nil, List.getElem?_cons_zero, List.getElem?_cons_succ, List.getElem?_nil, List.set_cons_zero, List.set_cons_succ, List.set_nil, Option.bind_some, Option.bind_none, Option.map_some, Option.map_none, id, Nat.zero_add, Nat.reduceAdd, Nat.reduceSub, Nat.sub_self, Nat.sub_zero, if_true, if_false, Bool.false_eq_true, Bool.and_true, Bool.true_and, Bool.not_true, Bool.not_false, and_true, true_and, and_self, reduceCtorEq, ne_eq, not_false_eq_true, sz_le, sz_lt, Nat.reduceLeDiff, ints_all, strs_all, callQ_ap, callK_some, giveQ_nil, giveQ_r, giveQ_k, resQ_rt, resQ_ex, q_str, q_int, q_bl, q_non, q_tup, q_lst, q_dic, q_dit, q_obj, qChain_ap, lenN_s, listV_t, listV_l, listV_d, tupleV_l, lenN_d, ixV_d, slV_l, all_true, ints_mp, strs_mp, fldD_ap, sFldF_ap, rndK_nx, rndK_ct, rndK_bk, rndK_rt, rndK_ex, forV_cons, forV_nil, sForMv_ap, mvK_some, pFld_ap, pFldK_o, pIx_ap, pIxK_l, pIxK_t, pIxK_d, gLmP_ap, gLmPK_ok, gLmPK_ex, mqNil_ap, mqCons_ap, Function.comp_apply, Function.comp_id, Function.id_comp, neV_strs, h1, e1, hr]
  unfold rngD
  rw [List.range_eq_range', show (D.lst Fl.own []) = eH .own [] from rfl, h2]
  simp -implicitDefEqProofs only [bind_ok, bind_ex, bind_no, pure_ok, pure_ex, pure_no, seqE_ok, seqE_ex, seqE_no, seqS_nx, seqS_rt, seqS_ex, seqS_bk, seqS_ct, seqS_no, sNext_ap, sBreak_ap, sCont_ap, sRetN_ap, sSeq_ap, sDrop_ap, sRet_ap, sSet_ap, sIf_ap, condS_t, condS_f, sKillO_ap, killO_nx, killO_bk, killO_ct, killO_rt, killO_ex, kill_cons, kill_nil, sAsg_ap, asgK_ap, sRaise_ap, sFor_ap, forK_ap, setS_mk, setA_mk, look_mk, lookS_val, lookS_arg, qV_ap, oD_some, lc_mk, lcS_val, lcS_arg, get_s, get_a, rm_s, rm_a, put_s, put_a, view_mk, Sl.view_val, Sl.view_arg, Sl.view_no, wipe_nil, wipe_cons, qC_ap, qOp_ap, qUn_ap, qCB_ap, aNil_ap, aCons_ap, tV_ap, tNot_ap, tAnd_ap, tOr_ap, condT_y, condT_tf, condT_ft, tYes_ap, qNot_ap, qAnd_ap, qOr_ap, condQ_y, condQ_tf, condQ_ft, qIf_ap, pickQ_t, pickQ_f, qTup_ap, qLst_ap, qFld_ap, oNone_ap, oSome_ap, qSl_ap, qLc_ap, iSeq_ap, iRange_ap, qCall_ap, qMeth_ap, qM1_ap, gQ_ap, liftO_ok, liftO_ex, gQT_ap, liftT_ok, liftT_ex, gMove_mk, gFz_mk, gOp_ap, gOpK_ap, gUn_ap, gCB_ap, finG_ok, gNil_ap, gCons_ap, gConsK_ap, lNil_ap, lCons_ap, lConsK_ap, gTupL_ap, gLstL_ap, gSt_ap, gTV_ap, gNot_ap, gAnd_ap, gOr_ap, condG_y, condG_tf, condG_ft, gIf_ap, pickG_t, pickG_f, giSeq_ap, giRange_ap, ofOG_some, ofO_some, gCall_ap, gCallK_ap, afterG_rt, afterG_ex, gMake_ap, gMakeK_ap, makeG_rt, makeG_ex, gLm_ap, isLst_ap, gLmK_ap, pNm_ap, pNmK_some, fnF_ap, finF_rt, finF_nx, finF_ex, sSubL_ap, subK_ap, faQ_ap, faQK_some, startP, stS, stA, okA, takeH, evalA, exP, Ag.sl, putH, toB, toI, lenV_ap, lenN_l, lenN_t, addV_i, subV_i, mulV_i, fdivV_i, modV_i, ltV_i, leV_i, gtV_i, geV_i, negV_i, eqV_i, eqV_s, eqV_b, neV_i, neV_s, neV_b, addV_s, addV_l, addV_t, ixV_t, ixV_tk, ixV_l, ixV_s, at_0, at_1, at_2, at_3, ix_0, ix_1, ix_2, decide_true, decide_false, mkTup, mkLst, mkTupG, mkLstG, fAppend, fExtend, fInsert, fClear, fPop, fRev, mkLc, D.free, D.up, D.st, D.view, D.fz, D.mapF, D.mapFL, viewF, fzF, D.noOwn, D.noBor, D.kept, D.allF, D.allFL, ownF, borF, keepF, List.map_cons, List.map_nil, List.length_cons, List.length_nil, List.length_map, List.replicate, List.cons_append, List.nil_append, List.append_nil, List.getElem?_cons_zero, List.getElem?_cons_succ, List.getElem?_nil, List.set_cons_zero, List.set_cons_succ, List.set_nil, Option.bind_some, Option.bind_none, Option.map_some, Option.map_none, id, Nat.zero_add, Nat.reduceAdd, Nat.reduceSub, Nat.sub_self, Nat.sub_zero, if_true, if_false, Bool.false_eq_true, Bool.and_true, Bool.true_and, Bool.not_true, Bool.not_false, and_true, true_and, and_self, reduceCtorEq, ne_eq, not_false_eq_true, sz_le, sz_lt, Nat.reduceLeDiff, ints_all, strs_all, callQ_ap, callK_some, giveQ_nil, giveQ_r, giveQ_k, resQ_rt, resQ_ex, q_str, q_int, q_bl, q_non, q_tup, q_lst, q_dic, q_dit, q_obj, qChain_ap, lenN_s, listV_t, listV_l, listV_d, tupleV_l, lenN_d, ixV_d, slV_l, all_true, ints_mp, strs_mp, fldD_ap, sFldF_ap, rndK_nx, rndK_ct, rndK_bk, rndK_rt, rndK_ex, forV_cons, forV_nil, sForMv_ap, mvK_some, pFld_ap, pFldK_o, pIx_ap, pIxK_l, pIxK_t, pIxK_d, gLmP_ap, gLmPK_ok, gLmPK_ex, mqNil_ap, mqCons_ap, Function.comp_apply, Function.comp_id, Function.id_comp, neV_strs, ePs_all]
  exact ⟨hs, st2, rfl, g2, o2, l2 (by omega), by simp at l1; omega⟩
/-! ### ties -/
def Apart (p q : Str × Str) : Prop := p ≠ q ∧ p ≠ (q.2, q.1)
structure TInv (ns : List Str) (k j : Nat) (ts : List (Str × Str)) : Prop where
  at' : ∀ p ∈ ts, ∃ a b x y, b < a ∧ (a < k ∨ (a = k ∧ b < j)) ∧ ns[a]? = some x ∧ ns[b]? = some y ∧ (p = (x, y) ∨ p = (y, x))
  pw : ts.Pairwise Apart
theorem nd_get {ns : List Str} (h : ns.Nodup) {a b : Nat} {x : Str} (ha : ns[a]? = some x) (hb : ns[b]? = some x) : a = b := nd_ix h ha hb
theorem TInv.mono {ns : List Str} {k j k' j' : Nat} {ts : List (Str × Str)} (h : TInv ns k j ts) (hk : k < k' ∨ (k = k' ∧ j ≤ j')) : TInv ns k' j' ts := ⟨fun p m => by
  obtain ⟨a, b, x, y, h1, h2, h3⟩ := h.at' p m
  exact ⟨a, b, x, y, h1, by omega, h3⟩, h.pw⟩
theorem TInv.put {ns : List Str} (nd : ns.Nodup) {k j : Nat} {ts : List (Str × Str)} (h : TInv ns k j ts) (hj : j < k) {x y : Str} (hx : ns[k]? = some x) (hy : ns[j]? = some y) {p : Str × Str} (hp : p = (x, y) ∨ p = (y, x)) (i : Nat) : TInv ns k (j + 1) (ts.take i ++ [p] ++ ts.drop i) := by
  have pm : (ts.take i ++ [p] ++ ts.drop i).Perm (p :: ts) := by
    have : (ts.take i ++ [p] ++ ts.drop i).Perm ([p] ++ ts.take i ++ ts.drop i) := List.perm_append_comm.append_right _
    rw [List.append_assoc [p], List.take_append_drop] at this
    exact this
  have ap : ∀ q ∈ ts, Apart p q := fun q m => by
    obtain ⟨a, b, x', y', h1, h2, h3, h4, h5⟩ := h.at' q m
    have e1 : ¬ (x = x' ∧ y = y') := fun ⟨z1, z2⟩ => by
      subst z1 z2
      have := nd_get nd hx h3
      have := nd_get nd hy h4
      omega
    have e2 : ¬ (x = y' ∧ y = x') := fun ⟨z1, z2⟩ => by
      subst z1 z2
      have := nd_get nd hx h4
      have := nd_get nd hy h3
      omega
    rcases hp with rfl | rfl <;> rcases h5 with rfl | rfl <;> refine ⟨fun z => ?_, fun z => ?_⟩ <;> simp only [Prod.mk.injEq] at z
    · exact e1 z
    · exact e2 z
    · exact e2 z
    · exact e1 z
    · exact e2 ⟨z.2, z.1⟩
    · exact e1 ⟨z.2, z.1⟩
    · exact e1 ⟨z.2, z.1⟩
    · exact e2 ⟨z.2, z.1⟩
  have sym : ∀ {p q : Str × Str}, Apart p q → Apart q p := fun {p q} ⟨z1, z2⟩ => ⟨fun e => z1 e.symm, fun e => z2 (by rw [e])⟩
  refine ⟨fun q m => ?_, pm.symm.pairwise (List.pairwise_cons.mpr ⟨ap, h.pw⟩) sym⟩
  rcases List.mem_cons.mp (pm.subset m) with rfl | m
  · exact ⟨k, j, x, y, hj, .inr ⟨rfl, by omega⟩, hx, hy, hp⟩
  · obtain ⟨a, b, x', y', h1, h2, h3⟩ := h.at' q m
    exact ⟨a, b, x', y', h1, by omega, h3⟩
theorem ties_round {st : List Int} {ns : List Str} {ts : List (Str × Str)} {k j : Nat} {few : Int} {hd : D} {x y : Str} (g : Good st) (nd : ns.Nodup) (h : TInv ns k j ts) (hj : j < k) (hx : ns[k]? = some x) (hy : ns[j]? = some y) (hl : ts.length ≤ 64) :
    ∃ ts' st', B0__law_ties K A ⟨[.arg 0, .val hd, .val (.lst .own (ns.map D.str)), .val (.int few), .val (.lst .own (ts.map eT)), .val (.int (0 + (k : Int))), .val (.str y), .no, .no, .no], [some (St st), none]⟩ = .nx ⟨[.arg 0, .val hd, .val (.lst .own (ns.map D.str)), .val (.int few), .val (.lst .own (ts'.map eT)), .val (.int (0 + (k : Int))), .no, .no, .no, .no], [some (St st'), none]⟩ ∧ Good st' ∧ TInv ns k (j + 1) ts' ∧ ts'.length ≤ ts.length + 1 := by
  obtain ⟨a, st1, h1, a1, a2, g1⟩ := digit_ok (K := K) (A := A) (b := 4) g (by decide) (by decide)
  obtain ⟨c, st2, h2, c1, c2, g2⟩ := digit_ok (K := K) (A := A) (b := 2) g1 (by decide) (by decide)
  obtain ⟨d, st3, h3, d1, d2, g3⟩ := digit_ok (K := K) (A := A) (b := (ts.length : Int) + 1) g2 (by omega) (by omega)
  obtain ⟨c, rfl⟩ := Int.eq_ofNat_of_zero_le c1
  obtain ⟨d, rfl⟩ := Int.eq_ofNat_of_zero_le d1
  have hat : atI (ns.map D.str) (0 + (k : Int)) = some (.str x) := by
    rw [Int.zero_add, atI_nat (by have := (List.getElem?_eq_some_iff.mp hx).1; simpa using this), List.getElem?_map, hx]
    rfl
  obtain ⟨p, hp4, hp⟩ : ∃ p : Str × Str, atI [D.tup [.str x, .str y], .tup [.str y, .str x]] (c : Int) = some (eT p) ∧ (p = (x, y) ∨ p = (y, x)) := by
    have : c = 0 ∨ c = 1 := by omega
    rcases this with rfl | rfl
    · exact ⟨(x, y), at_0, .inl rfl⟩
    · exact ⟨(y, x), at_1, .inr rfl⟩
  unfold B0__law_ties
  by_cases ha : a < few
  · have hi : (ts.length < sizeLine ∧ 0 ≤ (d : Int) ∧ (d : Int) < 2 ^ 63) = True := eq_true ⟨Nat.lt_of_le_of_lt hl (by decide), by omega, by omega⟩
    refine ⟨ts.take d ++ [p] ++ ts.drop d, st3, ?_, g3, h.put nd hj hx hy hp d, by simp; omega⟩
    simp -implicitDefEqProofs only [bind_ok, bind_ex, bind_no, pure_ok, pure_ex, pure_no, seqE_ok, seqE_ex, seqE_no, seqS_nx, seqS_rt, seqS_ex, seqS_bk, seqS_ct, seqS_no, sNext_ap, sBreak_ap, sCont_ap, sRetN_ap, sSeq_ap, sDrop_ap, sRet_ap, sSet_ap, sIf_ap, condS_t, condS_f, sKillO_ap, killO_nx, killO_bk, killO_ct, killO_rt, killO_ex, kill_cons, kill_nil, sAsg_ap, asgK_ap, sRaise_ap, sFor_ap, forK_ap, setS_mk, setA_mk, look_mk, lookS_val, lookS_arg, qV_ap, oD_some, lc_mk, lcS_val, lcS_arg, get_s, get_a, rm_s, rm_a, put_s, put_a, view_mk, Sl.view_val, Sl.view_arg, Sl.view_no, wipe_nil, wipe_cons, qC_ap, qOp_ap, qUn_ap, qCB_ap, aNil_ap, aCons_ap, tV_ap, tNot_ap, tAnd_ap, tOr_ap, condT_y, condT_tf, condT_ft, tYes_ap, qNot_ap, qAnd_ap, qOr_ap, condQ_y, condQ_tf, condQ_ft, qIf_ap, pickQ_t, pickQ_f, qTup_ap, qLst_ap, qFld_ap, oNone_ap, oSome_ap, qSl_ap, qLc_ap, iSeq_ap, iRange_ap, qCall_ap, qMeth_ap, qM1_ap, gQ_ap, liftO_ok, liftO_ex, gQT_ap, liftT_ok, liftT_ex, gMove_mk, gFz_mk, gOp_ap, gOpK_ap, gUn_ap, gCB_ap, finG_ok, gNil_ap, gCons_ap, gConsK_ap, lNil_ap, lCons_ap, lConsK_ap, gTupL_ap, gLstL_ap, gSt_ap, gTV_ap, gNot_ap, gAnd_ap, gOr_ap, condG_y, condG_tf, condG_ft, gIf_ap, pickG_t, pickG_f, giSeq_ap, giRange_ap, ofOG_some, ofO_some, gCall_ap, gCallK_ap, afterG_rt, afterG_ex, gMake_ap, gMakeK_ap, makeG_rt, makeG_ex, gLm_ap, isLst_ap, gLmK_ap, pNm_ap, pNmK_some, fnF_ap, finF_rt, finF_nx, finF_ex, sSubL_ap, subK_ap, faQ_ap, faQK_some, startP, stS, stA, okA, takeH, evalA, exP, Ag.sl, putH, toB, toI, lenV_ap, lenN_l, lenN_t, addV_i, subV_i, mulV_i, fdivV_i, modV_i, ltV_i, leV_i, gtV_i, geV_i, negV_i, eqV_i, eqV_s, eqV_b, neV_i, neV_s, neV_b, addV_s, addV_l, addV_t, ixV_t, ixV_tk, ixV_l, ixV_s, at_0, at_1, at_2, at_3, ix_0, ix_1, ix_2, decide_true, decide_false, mkTup, mkLst, mkTupG, mkLstG, fAppend, fExtend, fInsert, fClear, fPop, fRev, mkLc, D.free, D.up, D.st, D.view, D.fz, D.mapF, D.mapFL, viewF, fzF, D.noOwn, D.noBor, D.kept, D.allF, D.allFL, ownF, borF, keepF, List.map_cons, List.map_nil, List.length_cons, List.length_nil, List.length_map, List.replicate, List.cons_append, List.nil_append, List.append_nil, List.getElem?_cons_zero, List.getElem?_cons_succ, List.getElem?_nil, List.set_cons_zero, List.set_cons_succ, List.set_nil, Option.bind_some, Option.bind_none, Option.map_some, Option.map_none, id, Nat.zero_add, Nat.reduceAdd, Nat.reduceSub, Nat.sub_self, Nat.sub_zero, if_true, if_false, Bool.false_eq_true, Bool.and_true, Bool.true_and, Bool.not_true, Bool.not_false, and_true, true_and, and_self, reduceCtorEq, ne_eq, not_false_eq_true, sz_le, sz_lt, Nat.reduceLeDiff, ints_all, strs_all, callQ_ap, callK_some, giveQ_nil, giveQ_r, giveQ_k, resQ_rt, resQ_ex, q_str, q_int, q_bl, q_non, q_tup, q_lst, q_dic, q_dit, q_obj, qChain_ap, lenN_s, listV_t, listV_l, listV_d, tupleV_l, lenN_d, ixV_d, slV_l, all_true, ints_mp, strs_mp, fldD_ap, sFldF_ap, rndK_nx, rndK_ct, rndK_bk, rndK_rt, rndK_ex, forV_cons, forV_nil, sForMv_ap, mvK_some, pFld_ap, pFldK_o, pIx_ap, pIxK_l, pIxK_t, pIxK_d, gLmP_ap, gLmPK_ok, gLmPK_ex, mqNil_ap, mqCons_ap, Function.comp_apply, Function.comp_id, Function.id_comp, neV_strs, h1, decide_eq_true ha, hat, h2, hp4, h3, hi, strs_mp, eTs_all, eTs_map]
    simp [List.map_take, List.map_drop]
  · refine ⟨ts, st1, ?_, g1, h.mono (.inr ⟨rfl, by omega⟩), by omega⟩
    simp -implicitDefEqProofs only [bind_ok, bind_ex, bind_no, pure_ok, pure_ex, pure_no, seqE_ok, seqE_ex, seqE_no, seqS_nx, seqS_rt, seqS_ex, seqS_bk, seqS_ct, seqS_no, sNext_ap, sBreak_ap, sCont_ap, sRetN_ap, sSeq_ap, sDrop_ap, sRet_ap, sSet_ap, sIf_ap, condS_t, condS_f, sKillO_ap, killO_nx, killO_bk, killO_ct, killO_rt, killO_ex, kill_cons, kill_nil, sAsg_ap, asgK_ap, sRaise_ap, sFor_ap, forK_ap, setS_mk, setA_mk, look_mk, lookS_val, lookS_arg, qV_ap, oD_some, lc_mk, lcS_val, lcS_arg, get_s, get_a, rm_s, rm_a, put_s, put_a, view_mk, Sl.view_val, Sl.view_arg, Sl.view_no, wipe_nil, wipe_cons, qC_ap, qOp_ap, qUn_ap, qCB_ap, aNil_ap, aCons_ap, tV_ap, tNot_ap, tAnd_ap, tOr_ap, condT_y, condT_tf, condT_ft, tYes_ap, qNot_ap, qAnd_ap, qOr_ap, condQ_y, condQ_tf, condQ_ft, qIf_ap, pickQ_t, pickQ_f, qTup_ap, qLst_ap, qFld_ap, oNone_ap, oSome_ap, qSl_ap, qLc_ap, iSeq_ap, iRange_ap, qCall_ap, qMeth_ap, qM1_ap, gQ_ap, liftO_ok, liftO_ex, gQT_ap, liftT_ok, liftT_ex, gMove_mk, gFz_mk, gOp_ap, gOpK_ap, gUn_ap, gCB_ap, finG_ok, gNil_ap, gCons_ap, gConsK_ap, lNil_ap, lCons_ap, lConsK_ap, gTupL_ap, gLstL_ap, gSt_ap, gTV_ap, gNot_ap, gAnd_ap, gOr_ap, condG_y, condG_tf, condG_ft, gIf_ap, pickG_t, pickG_f, giSeq_ap, giRange_ap, ofOG_some, ofO_some, gCall_ap, gCallK_ap, afterG_rt, afterG_ex, gMake_ap, gMakeK_ap, makeG_rt, makeG_ex, gLm_ap, isLst_ap, gLmK_ap, pNm_ap, pNmK_some, fnF_ap, finF_rt, finF_nx, finF_ex, sSubL_ap, subK_ap, faQ_ap, faQK_some, startP, stS, stA, okA, takeH, evalA, exP, Ag.sl, putH, toB, toI, lenV_ap, lenN_l, lenN_t, addV_i, subV_i, mulV_i, fdivV_i, modV_i, ltV_i, leV_i, gtV_i, geV_i, negV_i, eqV_i, eqV_s, eqV_b, neV_i, neV_s, neV_b, addV_s, addV_l, addV_t, ixV_t, ixV_tk, ixV_l, ixV_s, at_0, at_1, at_2, at_3, ix_0, ix_1, ix_2, decide_true, decide_false, mkTup, mkLst, mkTupG, mkLstG, fAppend, fExtend, fInsert, fClear, fPop, fRev, mkLc, D.free, D.up, D.st, D.view, D.fz, D.mapF, D.mapFL, viewF, fzF, D.noOwn, D.noBor, D.kept, D.allF, D.allFL, ownF, borF, keepF, List.map_cons, List.map_nil, List.length_cons, List.length_nil, List.length_map, List.replicate, List.cons_append, List.nil_append, List.append_nil, List.getElem?_cons_zero, List.getElem?_cons_succ, List.getElem?_nil, List.set_cons_zero, List.set_cons_succ, List.set_nil, Option.bind_some, Option.bind_none, Option.map_some, Option.map_none, id, Nat.zero_add, Nat.reduceAdd, Nat.reduceSub, Nat.sub_self, Nat.sub_zero, if_true, if_false, Bool.false_eq_true, Bool.and_true, Bool.true_and, Bool.not_true, Bool.not_false, and_true, true_and, and_self, reduceCtorEq, ne_eq, not_false_eq_true, sz_le, sz_lt, Nat.reduceLeDiff, ints_all, strs_all, callQ_ap, callK_some, giveQ_nil, giveQ_r, giveQ_k, resQ_rt, resQ_ex, q_str, q_int, q_bl, q_non, q_tup, q_lst, q_dic, q_dit, q_obj, qChain_ap, lenN_s, listV_t, listV_l, listV_d, tupleV_l, lenN_d, ixV_d, slV_l, all_true, ints_mp, strs_mp, fldD_ap, sFldF_ap, rndK_nx, rndK_ct, rndK_bk, rndK_rt, rndK_ex, forV_cons, forV_nil, sForMv_ap, mvK_some, pFld_ap, pFldK_o, pIx_ap, pIxK_l, pIxK_t, pIxK_d, gLmP_ap, gLmPK_ok, gLmPK_ex, mqNil_ap, mqCons_ap, Function.comp_apply, Function.comp_id, Function.id_comp, neV_strs, h1, decide_eq_false ha]
theorem ties_in {ns : List Str} {k : Nat} {few : Int} {hd : D} {x : Str} (nd : ns.Nodup) (hk : k < 8) (hx : ns[k]? = some x) : ∀ (n j : Nat) (ts : List (Str × Str)) (st : List Int), j + n = k → Good st → TInv ns k j ts → ts.length + n ≤ 64 → ∃ ts' st', forV (.nm 6) (B0__law_ties K A) (((ns.take k).drop j).map D.str) ⟨[.arg 0, .val hd, .val (.lst .own (ns.map D.str)), .val (.int few), .val (.lst .own (ts.map eT)), .val (.int (0 + (k : Int))), .no, .no, .no, .no], [some (St st), none]⟩ = .nx ⟨[.arg 0, .val hd, .val (.lst .own (ns.map D.str)), .val (.int few), .val (.lst .own (ts'.map eT)), .val (.int (0 + (k : Int))), .no, .no, .no, .no], [some (St st'), none]⟩ ∧ Good st' ∧ TInv ns k k ts' ∧ ts'.length ≤ ts.length + n
  | 0, j, ts, st, e, g, h, hl => by
    have hlk : k < ns.length := (List.getElem?_eq_some_iff.mp hx).1
    rw [List.drop_of_length_le (by simp; omega)]
    exact ⟨ts, st, rfl, g, by rw [show j = k by omega] at h; exact h, by omega⟩
  | n + 1, j, ts, st, e, g, h, hl => by
    have hlk : k < ns.length := (List.getElem?_eq_some_iff.mp hx).1
    have hj : j < (ns.take k).length := by simp; omega
    have hy : ns[j]? = some ((ns.take k)[j]) := by
      rw [List.getElem_take]; simp
    obtain ⟨ts1, st1, h1, g1, i1, l1⟩ := ties_round (K := K) (A := A) (few := few) (hd := hd) g nd h (by omega) hx hy (by omega)
    rw [List.drop_eq_getElem_cons hj, List.map_cons, forV_nx put_nm h1]
    obtain ⟨ts2, st2, h2, g2, i2, l2⟩ := ties_in nd hk hx n (j + 1) ts1 st1 (by omega) g1 i1 (by omega)
    exact ⟨ts2, st2, h2, g2, i2, by omega⟩
theorem cut_take {α : Type} {xs : List α} {k : Nat} (h : k ≤ xs.length) : cutG xs none (some (0 + (k : Int))) = xs.take k := by
  unfold cutG
  rw [Int.zero_add, HT.sIx_nat, HT.sIx_none, List.drop_zero, Nat.sub_zero, Nat.min_eq_left h]
theorem ties_row {ns : List Str} {k : Nat} {few : Int} {hd : D} {ts : List (Str × Str)} {st : List Int} (nd : ns.Nodup) (hk : k < 8) (hkn : k < ns.length) (g : Good st) (h : TInv ns k 0 ts) (hl : ts.length + k ≤ 64) :
    ∃ ts' st', B1__law_ties K A ⟨[.arg 0, .val hd, .val (.lst .own (ns.map D.str)), .val (.int few), .val (.lst .own (ts.map eT)), .val (.int (0 + (k : Int))), .no, .no, .no, .no], [some (St st), none]⟩ = .nx ⟨[.arg 0, .val hd, .val (.lst .own (ns.map D.str)), .val (.int few), .val (.lst .own (ts'.map eT)), .no, .no, .no, .no, .no], [some (St st'), none]⟩ ∧ Good st' ∧ TInv ns (k + 1) 0 ts' ∧ ts'.length ≤ ts.length + k := by
  have hx : ns[k]? = some ns[k] := by simp [hkn]
  obtain ⟨ts1, st1, h1, g1, i1, l1⟩ := ties_in (K := K) (A := A) (few := few) (hd := hd) nd hk hx k 0 ts st (by omega) g h hl
  have hc : cutG (ns.map D.str) none (some (0 + (k : Int))) = (ns.take k).map D.str := by rw [cut_take (by simp; omega), List.map_take]
  refine ⟨ts1, st1, ?_, g1, i1.mono (.inl (by omega)), l1⟩
  unfold B1__law_ties
  simp -implicitDefEqProofs only [bind_ok, bind_ex, bind_no, pure_ok, pure_ex, pure_no, seqE_ok, seqE_ex, seqE_no, seqS_nx, seqS_rt, seqS_ex, seqS_bk, seqS_ct, seqS_no, sNext_ap, sBreak_ap, sCont_ap, sRetN_ap, sSeq_ap, sDrop_ap, sRet_ap, sSet_ap, sIf_ap, condS_t, condS_f, sKillO_ap, killO_nx, killO_bk, killO_ct, killO_rt, killO_ex, kill_cons, kill_nil, sAsg_ap, asgK_ap, sRaise_ap, sFor_ap, forK_ap, setS_mk, setA_mk, look_mk, lookS_val, lookS_arg, qV_ap, oD_some, lc_mk, lcS_val, lcS_arg, get_s, get_a, rm_s, rm_a, put_s, put_a, view_mk, Sl.view_val, Sl.view_arg, Sl.view_no, wipe_nil, wipe_cons, qC_ap, qOp_ap, qUn_ap, qCB_ap, aNil_ap, aCons_ap, tV_ap, tNot_ap, tAnd_ap, tOr_ap, condT_y, condT_tf, condT_ft, tYes_ap, qNot_ap, qAnd_ap, qOr_ap, condQ_y, condQ_tf, condQ_ft, qIf_ap, pickQ_t, pickQ_f, qTup_ap, qLst_ap, qFld_ap, oNone_ap, oSome_ap, qSl_ap, qLc_ap, iSeq_ap, iRange_ap, qCall_ap, qMeth_ap, qM1_ap, gQ_ap, liftO_ok, liftO_ex, gQT_ap, liftT_ok, liftT_ex, gMove_mk, gFz_mk, gOp_ap, gOpK_ap, gUn_ap, gCB_ap, finG_ok, gNil_ap, gCons_ap, gConsK_ap, lNil_ap, lCons_ap, lConsK_ap, gTupL_ap, gLstL_ap, gSt_ap, gTV_ap, gNot_ap, gAnd_ap, gOr_ap, condG_y, condG_tf, condG_ft, gIf_ap, pickG_t, pickG_f, giSeq_ap, giRange_ap, ofOG_some, ofO_some, gCall_ap, gCallK_ap, afterG_rt, afterG_ex, gMake_ap, gMakeK_ap, makeG_rt, makeG_ex, gLm_ap, isLst_ap, gLmK_ap, pNm_ap, pNmK_some, fnF_ap, finF_rt, finF_nx, finF_ex, sSubL_ap, subK_ap, faQ_ap, faQK_some, startP, stS, stA, okA, takeH, evalA, exP, Ag.sl, putH, toB, toI, lenV_ap, lenN_l, lenN_t, addV_i, subV_i, mulV_i, fdivV_i, modV_i, ltV_i, leV_i, gtV_i, geV_i, negV_i, eqV_i, eqV_s, eqV_b, neV_i, neV_s, neV_b, addV_s, addV_l, addV_t, ixV_t, ixV_tk, ixV_l, ixV_s, at_0, at_1, at_2, at_3, ix_0, ix_1, ix_2, decide_true, decide_false, mkTup, mkLst, mkTupG, mkLstG, fAppend, fExtend, fInsert, fClear, fPop, fRev, mkLc, D.free, D.up, D.st, D.view, D.fz, D.mapF, D.mapFL, viewF, fzF, D.noOwn, D.noBor, D.kept, D.allF, D.allFL, ownF, borF, keepF, List.map_cons, List.map_nil, List.length_cons, List.length_nil, List.length_map, List.replicate, List.cons_append, List.nil_append, List.append_nil, List.getElem?_cons_zero, List.getElem?_cons_succ, List.getElem?_nil, List.set_cons_zero, List.set_cons_succ, List.set_nil, Option.bind_some, Option.bind_none, Option.map_some, Option.map_none, id, Nat.zero_add, Nat.reduceAdd, Nat.reduceSub, Nat.sub_self, Nat.sub_zero, if_true, if_false, Bool.false_eq_true, Bool.and_true, Bool.true_and, Bool.not_true, Bool.not_false, and_true, true_and, and_self, reduceCtorEq, ne_eq, not_false_eq_true, sz_le, sz_lt, Nat.reduceLeDiff, ints_all, strs_all, callQ_ap, callK_some, giveQ_nil, giveQ_r, giveQ_k, resQ_rt, resQ_ex, q_str, q_int, q_bl, q_non, q_tup, q_lst, q_dic, q_dit, q_obj, qChain_ap, lenN_s, listV_t, listV_l, listV_d, tupleV_l, lenN_d, ixV_d, slV_l, all_true, ints_mp, strs_mp, fldD_ap, sFldF_ap, rndK_nx, rndK_ct, rndK_bk, rndK_rt, rndK_ex, forV_cons, forV_nil, sForMv_ap, mvK_some, pFld_ap, pFldK_o, pIx_ap, pIxK_l, pIxK_t, pIxK_d, gLmP_ap, gLmPK_ok, gLmPK_ex, mqNil_ap, mqCons_ap, Function.comp_apply, Function.comp_id, Function.id_comp, neV_strs, slV_l, hc, strs_mp, itemsD]
  rw [List.drop_zero] at h1
  rw [h1]
  simp -implicitDefEqProofs only [bind_ok, bind_ex, bind_no, pure_ok, pure_ex, pure_no, seqE_ok, seqE_ex, seqE_no, seqS_nx, seqS_rt, seqS_ex, seqS_bk, seqS_ct, seqS_no, sNext_ap, sBreak_ap, sCont_ap, sRetN_ap, sSeq_ap, sDrop_ap, sRet_ap, sSet_ap, sIf_ap, condS_t, condS_f, sKillO_ap, killO_nx, killO_bk, killO_ct, killO_rt, killO_ex, kill_cons, kill_nil, sAsg_ap, asgK_ap, sRaise_ap, sFor_ap, forK_ap, setS_mk, setA_mk, look_mk, lookS_val, lookS_arg, qV_ap, oD_some, lc_mk, lcS_val, lcS_arg, get_s, get_a, rm_s, rm_a, put_s, put_a, view_mk, Sl.view_val, Sl.view_arg, Sl.view_no, wipe_nil, wipe_cons, qC_ap, qOp_ap, qUn_ap, qCB_ap, aNil_ap, aCons_ap, tV_ap, tNot_ap, tAnd_ap, tOr_ap, condT_y, condT_tf, condT_ft, tYes_ap, qNot_ap, qAnd_ap, qOr_ap, condQ_y, condQ_tf, condQ_ft, qIf_ap, pickQ_t, pickQ_f, qTup_ap, qLst_ap, qFld_ap, oNone_ap, oSome_ap, qSl_ap, qLc_ap, iSeq_ap, iRange_ap, qCall_ap, qMeth_ap, qM1_ap, gQ_ap, liftO_ok, liftO_ex, gQT_ap, liftT_ok, liftT_ex, gMove_mk, gFz_mk, gOp_ap, gOpK_ap, gUn_ap, gCB_ap, finG_ok, gNil_ap, gCons_ap, gConsK_ap, lNil_ap, lCons_ap, lConsK_ap, gTupL_ap, gLstL_ap, gSt_ap, gTV_ap, gNot_ap, gAnd_ap, gOr_ap, condG_y, condG_tf, condG_ft, gIf_ap, pickG_t, pickG_f, giSeq_ap, giRange_ap, ofOG_some, ofO_some, gCall_ap, gCallK_ap, afterG_rt, afterG_ex, gMake_ap, gMakeK_ap, makeG_rt, makeG_ex, gLm_ap, isLst_ap, gLmK_ap, pNm_ap, pNmK_some, fnF_ap, finF_rt, finF_nx, finF_ex, sSubL_ap, subK_ap, faQ_ap, faQK_some, startP, stS, stA, okA, takeH, evalA, exP, Ag.sl, putH, toB, toI, lenV_ap, lenN_l, lenN_t, addV_i, subV_i, mulV_i, fdivV_i, modV_i, ltV_i, leV_i, gtV_i, geV_i, negV_i, eqV_i, eqV_s, eqV_b, neV_i, neV_s, neV_b, addV_s, addV_l, addV_t, ixV_t, ixV_tk, ixV_l, ixV_s, at_0, at_1, at_2, at_3, ix_0, ix_1, ix_2, decide_true, decide_false, mkTup, mkLst, mkTupG, mkLstG, fAppend, fExtend, fInsert, fClear, fPop, fRev, mkLc, D.free, D.up, D.st, D.view, D.fz, D.mapF, D.mapFL, viewF, fzF, D.noOwn, D.noBor, D.kept, D.allF, D.allFL, ownF, borF, keepF, List.map_cons, List.map_nil, List.length_cons, List.length_nil, List.length_map, List.replicate, List.cons_append, List.nil_append, List.append_nil, List.getElem?_cons_zero, List.getElem?_cons_succ, List.getElem?_nil, List.set_cons_zero, List.set_cons_succ, List.set_nil, Option.bind_some, Option.bind_none, Option.map_some, Option.map_none, id, Nat.zero_add, Nat.reduceAdd, Nat.reduceSub, Nat.sub_self, Nat.sub_zero, if_true, if_false, Bool.false_eq_true, Bool.and_true, Bool.true_and, Bool.not_true, Bool.not_false, and_true, true_and, and_self, reduceCtorEq, ne_eq, not_false_eq_true, sz_le, sz_lt, Nat.reduceLeDiff, ints_all, strs_all, callQ_ap, callK_some, giveQ_nil, giveQ_r, giveQ_k, resQ_rt, resQ_ex, q_str, q_int, q_bl, q_non, q_tup, q_lst, q_dic, q_dit, q_obj, qChain_ap, lenN_s, listV_t, listV_l, listV_d, tupleV_l, lenN_d, ixV_d, slV_l, all_true, ints_mp, strs_mp, fldD_ap, sFldF_ap, rndK_nx, rndK_ct, rndK_bk, rndK_rt, rndK_ex, forV_cons, forV_nil, sForMv_ap, mvK_some, pFld_ap, pFldK_o, pIx_ap, pIxK_l, pIxK_t, pIxK_d, gLmP_ap, gLmPK_ok, gLmPK_ex, mqNil_ap, mqCons_ap, Function.comp_apply, Function.comp_id, Function.id_comp, neV_strs]
theorem ties_loop {ns : List Str} {few : Int} {hd : D} (nd : ns.Nodup) (h8 : ns.length ≤ 8) : ∀ (n k : Nat) (ts : List (Str × Str)) (st : List Int), k + n = ns.length → Good st → TInv ns k 0 ts → ts.length ≤ 7 * k → ∃ ts' st', forV (.nm 5) (B1__law_ties K A) ((List.range' k n).map fun i : Nat => D.int (0 + (i : Int))) ⟨[.arg 0, .val hd, .val (.lst .own (ns.map D.str)), .val (.int few), .val (.lst .own (ts.map eT)), .no, .no, .no, .no, .no], [some (St st), none]⟩ = .nx ⟨[.arg 0, .val hd, .val (.lst .own (ns.map D.str)), .val (.int few), .val (.lst .own (ts'.map eT)), .no, .no, .no, .no, .no], [some (St st'), none]⟩ ∧ Good st' ∧ TInv ns ns.length 0 ts' ∧ ts'.length ≤ 56
  | 0, k, ts, st, e, g, h, hl => ⟨ts, st, rfl, g, by rw [show k = ns.length by omega] at h; exact h, by omega⟩
  | n + 1, k, ts, st, e, g, h, hl => by
    obtain ⟨ts1, st1, h1, g1, i1, l1⟩ := ties_row (K := K) (A := A) (few := few) (hd := hd) nd (by omega) (by omega) g h (by omega)
    rw [List.range'_succ, List.map_cons, forV_nx put_nm h1]
    exact ties_loop nd h8 n (k + 1) ts1 st1 (by omega) g1 i1 (by omega)
theorem lent_H {hs : List (Str × Int)} : (eH .own hs).view = eH .bor hs := by simp only [D.view, D.mapF, viewF, ePs_map]
theorem ties_ok {st : List Int} {hs : List (Str × Int)} (g : Good st) (h : HOk hs) (h8 : hs.length ≤ 8) : ∃ ts st', F__law_ties K A [St st, eH .bor hs] = .rt (.lst .own (ts.map eT)) [some (St st'), none] ∧ Good st' ∧ TInv (hs.map (·.1)) hs.length 0 ts ∧ ts.length ≤ 56 := by
  obtain ⟨few, st1, h1, a1, a2, g1⟩ := digit_ok (K := K) (A := A) (b := 3) g (by decide) (by decide)
  obtain ⟨ts, st2, h2, g2, i2, l2⟩ := ties_loop (K := K) (A := A) (few := 1 + few) (hd := eH .bor hs) h.nd (by simpa using h8) hs.length 0 [] st1 (by simp) g1 ⟨(fun p m => by cases m), List.Pairwise.nil⟩ (by simp)
  have cv : ∀ ρ : Plc, ρ.s.length = 10 → compV (.tp [.nm 8, .nm 9]) tYes (qV 8) ρ (hs.map eP) = .ok ((hs.map (·.1)).map D.str) := fun ρ hρ => by
    rw [List.map_map]
    refine compV_map hs fun e m => ?_
    obtain ⟨s, a⟩ := ρ
    match s, hρ with
    | [x0, x1, x2, x3, x4, x5, x6, x7, x8, x9], _ => exact ⟨_, rfl, rfl, rfl, rfl, rfl⟩
  have c10 := cv ⟨[.arg 0, .val (eH .bor hs), .no, .no, .no, .no, .no, .no, .no, .no], [some (St st), none]⟩ rfl
  have lc : hs.length ≤ sizeLine := Nat.le_trans h8 (by decide)
  have hr : rng1 [.int (hs.length : Int)] = some (rngD 0 hs.length) := rng1_ap (by omega)
  unfold F__law_ties
  simp -implicitDefEqProofs only [bind_ok, bind_ex, bind_no, pure_ok, pure_ex, pure_no, seqE_ok, seqE_ex, seqE_no, seqS_nx, seqS_rt, seqS_ex, seqS_bk, seqS_ct, seqS_no, sNext_ap, sBreak_ap, sCont_ap, sRetN_ap, sSeq_ap, sDrop_ap, sRet_ap, sSet_ap, sIf_ap, condS_t, condS_f, sKillO_ap, killO_nx, killO_bk, killO_ct, killO_rt, killO_ex, kill_cons, kill_nil, sAsg_ap, asgK_ap, sRaise_ap, sFor_ap, forK_ap, setS_mk, setA_mk, look_mk, lookS_val, lookS_arg, qV_ap, oD_some, lc_mk, lcS_val, lcS_arg, get_s, get_a, rm_s, rm_a, put_s, put_a, view_mk, Sl.view_val, Sl.view_arg, Sl.view_no, wipe_nil, wipe_cons, qC_ap, qOp_ap, qUn_ap, qCB_ap, aNil_ap, aCons_ap, tV_ap, tNot_ap, tAnd_ap, tOr_ap, condT_y, condT_tf, condT_ft, tYes_ap, qNot_ap, qAnd_ap, qOr_ap, condQ_y, condQ_tf, condQ_ft, qIf_ap, pickQ_t, pickQ_f, qTup_ap, qLst_ap, qFld_ap, oNone_ap, oSome_ap, qSl_ap, qLc_ap, iSeq_ap, iRange_ap, qCall_ap, qMeth_ap, qM1_ap, gQ_ap, liftO_ok, liftO_ex, gQT_ap, liftT_ok, liftT_ex, gMove_mk, gFz_mk, gOp_ap, gOpK_ap, gUn_ap, gCB_ap, finG_ok, gNil_ap, gCons_ap, gConsK_ap, lNil_ap, lCons_ap, lConsK_ap, gTupL_ap, gLstL_ap, gSt_ap, gTV_ap, gNot_ap, gAnd_ap, gOr_ap, condG_y, condG_tf, condG_ft, gIf_ap, pickG_t, pickG_f, giSeq_ap, giRange_ap, ofOG_some, ofO_some, gCall_ap, gCallK_ap, afterG_rt, afterG_ex, gMake_ap, gMakeK_ap, makeG_rt, makeG_ex, gLm_ap, isLst_ap, gLmK_ap, pNm_ap, pNmK_some, fnF_ap, finF_rt, finF_nx, finF_ex, sSubL_ap, subK_ap, faQ_ap, faQK_some, startP, stS, stA, okA, takeH, evalA, exP, Ag.sl, putH, toB, toI, lenV_ap, lenN_l, lenN_t, addV_i, subV_i, mulV_i, fdivV_i, modV_i, ltV_i, leV_i, gtV_i, geV_i, negV_i, eqV_i, eqV_s, eqV_b, neV_i, neV_s, neV_b, addV_s, addV_l, addV_t, ixV_t, ixV_tk, ixV_l, ixV_s, at_0, at_1, at_2, at_3, ix_0, ix_1, ix_2, decide_true, decide_false, mkTup, mkLst, mkTupG, mkLstG, fAppend, fExtend, fInsert, fClear, fPop, fRev, mkLc, D.free, D.up, D.st, D.view, D.fz, D.mapF, D.mapFL, viewF, fzF, D.noOwn, D.noBor, D.kept, D.allF, D.allFL, ownF, borF, keepF, List.map_cons, List.map_nil, List.length_cons, List.length_nil, List.length_map, List.replicate, List.cons_append, List.nil_append, List.append_nil, List.getElem?_cons_zero, List.getElem?_cons_succ, List.getElem?_nil, List.set_cons_zero, List.set_cons_succ, List.set_nil, Option.bind_some, Option.bind_none, Option.map_some, Option.map_none, id, Nat.zero_add, Nat.reduceAdd, Nat.reduceSub, Nat.sub_self, Nat.sub_zero, if_true, if_false, Bool.false_eq_true, Bool.and_true, Bool.true_and, Bool.not_true, Bool.not_false, and_true, true_and, and_self, reduceCtorEq, ne_eq, not_false_eq_true, sz_le, sz_lt, Nat.reduceLeDiff, ints_all, strs_all, callQ_ap, callK_some, giveQ_nil, giveQ_r, giveQ_k, resQ_rt, resQ_ex, q_str, q_int, q_bl, q_non, q_tup, q_lst, q_dic, q_dit, q_obj, qChain_ap, lenN_s, listV_t, listV_l, listV_d, tupleV_l, lenN_d, ixV_d, slV_l, all_true, ints_mp, strs_mp, fldD_ap, sFldF_ap, rndK_nx, rndK_ct, rndK_bk, rndK_rt, rndK_ex, forV_cons, forV_nil, sForMv_ap, mvK_some, pFld_ap, pFldK_o, pIx_ap, pIxK_l, pIxK_t, pIxK_d, gLmP_ap, gLmPK_ok, gLmPK_ex, mqNil_ap, mqCons_ap, Function.comp_apply, Function.comp_id, Function.id_comp, neV_strs, itemsD, c10, lc, h1, hr]
  unfold rngD
  rw [List.range_eq_range', show (D.lst Fl.own []) = .lst .own (([] : List (Str × Str)).map eT) from rfl, h2]
  simp -implicitDefEqProofs only [bind_ok, bind_ex, bind_no, pure_ok, pure_ex, pure_no, seqE_ok, seqE_ex, seqE_no, seqS_nx, seqS_rt, seqS_ex, seqS_bk, seqS_ct, seqS_no, sNext_ap, sBreak_ap, sCont_ap, sRetN_ap, sSeq_ap, sDrop_ap, sRet_ap, sSet_ap, sIf_ap, condS_t, condS_f, sKillO_ap, killO_nx, killO_bk, killO_ct, killO_rt, killO_ex, kill_cons, kill_nil, sAsg_ap, asgK_ap, sRaise_ap, sFor_ap, forK_ap, setS_mk, setA_mk, look_mk, lookS_val, lookS_arg, qV_ap, oD_some, lc_mk, lcS_val, lcS_arg, get_s, get_a, rm_s, rm_a, put_s, put_a, view_mk, Sl.view_val, Sl.view_arg, Sl.view_no, wipe_nil, wipe_cons, qC_ap, qOp_ap, qUn_ap, qCB_ap, aNil_ap, aCons_ap, tV_ap, tNot_ap, tAnd_ap, tOr_ap, condT_y, condT_tf, condT_ft, tYes_ap, qNot_ap, qAnd_ap, qOr_ap, condQ_y, condQ_tf, condQ_ft, qIf_ap, pickQ_t, pickQ_f, qTup_ap, qLst_ap, qFld_ap, oNone_ap, oSome_ap, qSl_ap, qLc_ap, iSeq_ap, iRange_ap, qCall_ap, qMeth_ap, qM1_ap, gQ_ap, liftO_ok, liftO_ex, gQT_ap, liftT_ok, liftT_ex, gMove_mk, gFz_mk, gOp_ap, gOpK_ap, gUn_ap, gCB_ap, finG_ok, gNil_ap, gCons_ap, gConsK_ap, lNil_ap, lCons_ap, lConsK_ap, gTupL_ap, gLstL_ap, gSt_ap, gTV_ap, gNot_ap, gAnd_ap, gOr_ap, condG_y, condG_tf, condG_ft, gIf_ap, pickG_t, pickG_f, giSeq_ap, giRange_ap, ofOG_some, ofO_some, gCall_ap, gCallK_ap, afterG_rt, afterG_ex, gMake_ap, gMakeK_ap, makeG_rt, makeG_ex, gLm_ap, isLst_ap, gLmK_ap, pNm_ap, pNmK_some, fnF_ap, finF_rt, finF_nx, finF_ex, sSubL_ap, subK_ap, faQ_ap, faQK_some, startP, stS, stA, okA, takeH, evalA, exP, Ag.sl, putH, toB, toI, lenV_ap, lenN_l, lenN_t, addV_i, subV_i, mulV_i, fdivV_i, modV_i, ltV_i, leV_i, gtV_i, geV_i, negV_i, eqV_i, eqV_s, eqV_b, neV_i, neV_s, neV_b, addV_s, addV_l, addV_t, ixV_t, ixV_tk, ixV_l, ixV_s, at_0, at_1, at_2, at_3, ix_0, ix_1, ix_2, decide_true, decide_false, mkTup, mkLst, mkTupG, mkLstG, fAppend, fExtend, fInsert, fClear, fPop, fRev, mkLc, D.free, D.up, D.st, D.view, D.fz, D.mapF, D.mapFL, viewF, fzF, D.noOwn, D.noBor, D.kept, D.allF, D.allFL, ownF, borF, keepF, List.map_cons, List.map_nil, List.length_cons, List.length_nil, List.length_map, List.replicate, List.cons_append, List.nil_append, List.append_nil, List.getElem?_cons_zero, List.getElem?_cons_succ, List.getElem?_nil, List.set_cons_zero, List.set_cons_succ, List.set_nil, Option.bind_some, Option.bind_none, Option.map_some, Option.map_none, id, Nat.zero_add, Nat.reduceAdd, Nat.reduceSub, Nat.sub_self, Nat.sub_zero, if_true, if_false, Bool.false_eq_true, Bool.and_true, Bool.true_and, Bool.not_true, Bool.not_false, and_true, true_and, and_self, reduceCtorEq, ne_eq, not_false_eq_true, sz_le, sz_lt, Nat.reduceLeDiff, ints_all, strs_all, callQ_ap, callK_some, giveQ_nil, giveQ_r, giveQ_k, resQ_rt, resQ_ex, q_str, q_int, q_bl, q_non, q_tup, q_lst, q_dic, q_dit, q_obj, qChain_ap, lenN_s, listV_t, listV_l, listV_d, tupleV_l, lenN_d, ixV_d, slV_l, all_true, ints_mp, strs_mp, fldD_ap, sFldF_ap, rndK_nx, rndK_ct, rndK_bk, rndK_rt, rndK_ex, forV_cons, forV_nil, sForMv_ap, mvK_some, pFld_ap, pFldK_o, pIx_ap, pIxK_l, pIxK_t, pIxK_d, gLmP_ap, gLmPK_ok, gLmPK_ex, mqNil_ap, mqCons_ap, Function.comp_apply, Function.comp_id, Function.id_comp, neV_strs, eTs_all]
  exact ⟨ts, st2, rfl, g2, by simpa using i2, l2⟩

theorem srt_eq {p q : Str × Str} (e : srt p = srt q) : p = q ∨ p = (q.2, q.1) := by
  have p1 : (srt p).Perm [p.1, p.2] := List.mergeSort_perm _ _
  have p2 : (srt q).Perm [q.1, q.2] := List.mergeSort_perm _ _
  rw [e] at p1
  have pm := p1.symm.trans p2
  obtain ⟨a, b⟩ := p
  obtain ⟨c, d⟩ := q
  simp only at pm
  have h1 : a = c ∨ a = d := by have := pm.subset (List.mem_cons_self (a := a)); simpa using this
  rcases h1 with rfl | rfl
  · have := (List.perm_cons a).mp pm
    have := List.perm_singleton.mp this
    left; simp at this; rw [this]
  · have pm2 := pm.trans (List.Perm.swap a c [])
    have := (List.perm_cons a).mp pm2
    have := List.perm_singleton.mp this
    right; simp at this; rw [this]
theorem tok_of {hs : List (Str × Int)} {ts : List (Str × Str)} {k : Nat} (h : HOk hs) (i : TInv (hs.map (·.1)) k 0 ts) (hl : ts.length ≤ 56) : TOk hs ts where
  at' := fun t m => by
    obtain ⟨a, b, x, y, h1, _, h3, h4, h5⟩ := i.at' t m
    have ne : x ≠ y := fun e => by
      subst e
      have := nd_get h.nd h3 h4
      omega
    have mx : x ∈ hs.map (·.1) := List.mem_of_getElem? h3
    have my : y ∈ hs.map (·.1) := List.mem_of_getElem? h4
    rcases h5 with rfl | rfl
    · exact ⟨mx, my, ne⟩
    · exact ⟨my, mx, fun e => ne e.symm⟩
  nd := by
    rw [List.Nodup, List.pairwise_map]
    exact i.pw.imp fun {p q} ap e => (srt_eq e).elim ap.1 ap.2
  few := by omega
end LW

namespace LW
open PySem PySem.Spec PyProof.Rows L2 VL
variable {K : PySem.W.Frag} {A : Adr}
theorem piece_at {z y a b : Str} (ne : a ≠ b) : y ∈ piece z [a, b] ↔ (a = z ∧ y = b) ∨ (b = z ∧ y = a) := by
  simp only [piece, List.mem_append]
  by_cases h1 : a = z <;> by_cases h2 : b = z <;> simp [h1, h2]
theorem tied_iff {hs : List (Str × Int)} {ts : List (Str × Str)} (t : TOk hs ts) {x y : Str} : (¬ x = y ∧ srt (x, y) ∈ prs ts) ↔ y ∈ nearP x (prs ts) := by
  constructor
  · rintro ⟨ne, hm⟩
    refine List.mem_flatMap.mpr ⟨_, hm, ?_⟩
    obtain ⟨a, b, e, q⟩ := srt_two (x, y)
    obtain ⟨a', b', e', ab, _⟩ := prs_ne t hm
    rw [e] at e' ⊢
    cases e'
    refine (piece_at ab).mpr ?_
    have h1 := (q x).mpr (.inl rfl)
    have h2 := (q y).mpr (.inr rfl)
    grind
  · intro hm
    obtain ⟨m, hm, hy⟩ := List.mem_flatMap.mp hm
    obtain ⟨a, b, rfl, ab, _⟩ := prs_ne t hm
    have e1 : sortS [a, b] = [a, b] := by
      obtain ⟨p, _, e⟩ := List.mem_map.mp (sortT_mem.mp hm)
      have pm : (srt p).Perm [p.1, p.2] := List.mergeSort_perm _ _
      rw [e] at pm
      rw [sortS_perm pm]; exact e
    have e2 : sortS [b, a] = [a, b] := by rw [sortS_perm (List.Perm.swap a b [])]; exact e1
    rcases (piece_at ab).mp hy with ⟨rfl, rfl⟩ | ⟨rfl, rfl⟩
    · exact ⟨ab, by show sortS [_, _] ∈ _; rw [e1]; exact hm⟩
    · exact ⟨fun q => ab q.symm, by show sortS [_, _] ∈ _; rw [e2]; exact hm⟩
theorem in_loop {hs : List (Str × Int)} {ts : List (Str × Str)} {z : Str} {h1 h2 s5 s6 h3 : D} (h : HOk hs) (t : TOk hs ts) (hz : z ∈ hs.map (·.1)) : ∀ ys : List Str, (∀ y ∈ ys, y ∈ hs.map (·.1)) →
    forV (.nm 8) (B0__law_right K A) (ys.map D.str) ⟨[.val (eW .bor A hs ts), .val h1, .val h2, .val (.str z), .val h3, .val s5, .val s6, .val (.lst .own ((sortS (nearP z (prs ts))).map D.str)), .no, .no, .no, .no], [none, none, none]⟩ = .nx ⟨[.val (eW .bor A hs ts), .val h1, .val h2, .val (.str z), .val h3, .val s5, .val s6, .val (.lst .own ((sortS (nearP z (prs ts))).map D.str)), .no, .no, .no, .no], [none, none, none]⟩
  | [], _ => rfl
  | y :: ys, hy => by
    have io : VL.isObj A.c_Web "are_tied" (eW .bor A hs ts) = true := by
      show (decide (A.c_Web = A.c_Web) && (decide (kS "strong" ≠ kS "are_tied") && (decide (kS "pairs" ≠ kS "are_tied") && true))) = true
      rw [decide_eq_true rfl, decide_eq_true (show kS "strong" ≠ kS "are_tied" by decide), decide_eq_true (show kS "pairs" ≠ kS "are_tied" by decide)]
      rfl
    have b : (!decide (z = y) && decide (srt (z, y) ∈ prs ts)) = decide (y ∈ sortS (nearP z (prs ts))) := by
      rw [Bool.eq_iff_iff, decide_eq_true_iff, sortS_mem, ← tied_iff t]; simp
    have rd : B0__law_right K A ⟨[.val (eW .bor A hs ts), .val h1, .val h2, .val (.str z), .val h3, .val s5, .val s6, .val (.lst .own ((sortS (nearP z (prs ts))).map D.str)), .val (.str y), .no, .no, .no], [none, none, none]⟩ = .nx ⟨[.val (eW .bor A hs ts), .val h1, .val h2, .val (.str z), .val h3, .val s5, .val s6, .val (.lst .own ((sortS (nearP z (prs ts))).map D.str)), .no, .no, .no, .no], [none, none, none]⟩ := by
      unfold B0__law_right
      simp -implicitDefEqProofs only [bind_ok, bind_ex, bind_no, pure_ok, pure_ex, pure_no, seqE_ok, seqE_ex, seqE_no, seqS_nx, seqS_rt, seqS_ex, seqS_bk, seqS_ct, seqS_no, sNext_ap, sBreak_ap, sCont_ap, sRetN_ap, sSeq_ap, sDrop_ap, sRet_ap, sSet_ap, sIf_ap, condS_t, condS_f, sKillO_ap, killO_nx, killO_bk, killO_ct, killO_rt, killO_ex, kill_cons, kill_nil, sAsg_ap, asgK_ap, sRaise_ap, sFor_ap, forK_ap, setS_mk, setA_mk, look_mk, lookS_val, lookS_arg, qV_ap, oD_some, lc_mk, lcS_val, lcS_arg, get_s, get_a, rm_s, rm_a, put_s, put_a, view_mk, Sl.view_val, Sl.view_arg, Sl.view_no, wipe_nil, wipe_cons, qC_ap, qOp_ap, qUn_ap, qCB_ap, aNil_ap, aCons_ap, tV_ap, tNot_ap, tAnd_ap, tOr_ap, condT_y, condT_tf, condT_ft, tYes_ap, qNot_ap, qAnd_ap, qOr_ap, condQ_y, condQ_tf, condQ_ft, qIf_ap, pickQ_t, pickQ_f, qTup_ap, qLst_ap, qFld_ap, oNone_ap, oSome_ap, qSl_ap, qLc_ap, iSeq_ap, iRange_ap, qCall_ap, qMeth_ap, qM1_ap, gQ_ap, liftO_ok, liftO_ex, gQT_ap, liftT_ok, liftT_ex, gMove_mk, gFz_mk, gOp_ap, gOpK_ap, gUn_ap, gCB_ap, finG_ok, gNil_ap, gCons_ap, gConsK_ap, lNil_ap, lCons_ap, lConsK_ap, gTupL_ap, gLstL_ap, gSt_ap, gTV_ap, gNot_ap, gAnd_ap, gOr_ap, condG_y, condG_tf, condG_ft, gIf_ap, pickG_t, pickG_f, giSeq_ap, giRange_ap, ofOG_some, ofO_some, gCall_ap, gCallK_ap, afterG_rt, afterG_ex, gMake_ap, gMakeK_ap, makeG_rt, makeG_ex, gLm_ap, isLst_ap, gLmK_ap, pNm_ap, pNmK_some, fnF_ap, finF_rt, finF_nx, finF_ex, sSubL_ap, subK_ap, faQ_ap, faQK_some, startP, stS, stA, okA, takeH, evalA, exP, Ag.sl, putH, toB, toI, lenV_ap, lenN_l, lenN_t, addV_i, subV_i, mulV_i, fdivV_i, modV_i, ltV_i, leV_i, gtV_i, geV_i, negV_i, eqV_i, eqV_s, eqV_b, neV_i, neV_s, neV_b, addV_s, addV_l, addV_t, ixV_t, ixV_tk, ixV_l, ixV_s, at_0, at_1, at_2, at_3, ix_0, ix_1, ix_2, decide_true, decide_false, mkTup, mkLst, mkTupG, mkLstG, fAppend, fExtend, fInsert, fClear, fPop, fRev, mkLc, D.free, D.up, D.st, D.view, D.fz, D.mapF, D.mapFL, viewF, fzF, D.noOwn, D.noBor, D.kept, D.allF, D.allFL, ownF, borF, keepF, List.map_cons, List.map_nil, List.length_cons, List.length_nil, List.length_map, List.replicate, List.cons_append, List.nil_append, List.append_nil, List.getElem?_cons_zero, List.getElem?_cons_succ, List.getElem?_nil, List.set_cons_zero, List.set_cons_succ, List.set_nil, Option.bind_some, Option.bind_none, Option.map_some, Option.map_none, id, Nat.zero_add, Nat.reduceAdd, Nat.reduceSub, Nat.sub_self, Nat.sub_zero, if_true, if_false, Bool.false_eq_true, Bool.and_true, Bool.true_and, Bool.not_true, Bool.not_false, and_true, true_and, and_self, reduceCtorEq, ne_eq, not_false_eq_true, sz_le, sz_lt, Nat.reduceLeDiff, ints_all, strs_all, callQ_ap, callK_some, giveQ_nil, giveQ_r, giveQ_k, resQ_rt, resQ_ex, q_str, q_int, q_bl, q_non, q_tup, q_lst, q_dic, q_dit, q_obj, qChain_ap, lenN_s, listV_t, listV_l, listV_d, tupleV_l, lenN_d, ixV_d, slV_l, all_true, ints_mp, strs_mp, fldD_ap, sFldF_ap, rndK_nx, rndK_ct, rndK_bk, rndK_rt, rndK_ex, forV_cons, forV_nil, sForMv_ap, mvK_some, pFld_ap, pFldK_o, pIx_ap, pIxK_l, pIxK_t, pIxK_d, gLmP_ap, gLmPK_ok, gLmPK_ex, mqNil_ap, mqCons_ap, Function.comp_apply, Function.comp_id, Function.id_comp, neV_strs, io, web_view (f := .bor) rfl, f_are_tied h t hz (hy y (by simp)), b, inU_strs, isi_of (d := .bl (decide (y ∈ sortS (nearP z (prs ts))))) (s := "bool") (t := "bool") (b := true) rfl rfl]
    rw [List.map_cons, forV_nx put_nm rd]
    exact in_loop h t hz ys fun y' m => hy y' (by simp [m])
theorem near_len {hs : List (Str × Int)} {ts : List (Str × Str)} {z : Str} (t : TOk hs ts) : (nearP z (prs ts)).length ≤ ts.length := by
  have key : ∀ ms : List (List Str), (∀ m ∈ ms, ∃ a b, m = [a, b] ∧ a ≠ b) → (nearP z ms).length ≤ ms.length := by
    intro ms
    induction ms with
    | nil => intro _; simp [nearP]
    | cons m ms ih =>
      intro h
      have ih := ih fun x hx => h x (by simp [hx])
      obtain ⟨a, b, rfl, ne⟩ := h m (by simp)
      show (piece z [a, b] ++ nearP z ms).length ≤ _
      have : (piece z [a, b]).length ≤ 1 := by
        by_cases ha : a = z
        · have hb : b ≠ z := fun e => ne (ha.trans e.symm)
          simp [piece, ha, hb]
        · by_cases hb : b = z <;> simp [piece, ha, hb]
      simp only [List.length_append, List.length_cons]; omega
  have := key (prs ts) fun m hm => by obtain ⟨a, b, e, ne, _⟩ := prs_ne t hm; exact ⟨a, b, e, ne⟩
  have e : (prs ts).length = ts.length := by unfold prs; rw [sortT_length, List.length_map]
  omega
theorem right_round {hs : List (Str × Int)} {ts : List (Str × Str)} {z : Str} {n : Int} {s6 : D} {f : Fl} (hf : f = .own ∨ f = .frz) (h : HOk hs) (t : TOk hs ts) (m : (z, n) ∈ hs) :
    B1__law_right K A ⟨[.val (eW .bor A hs ts), .val (eH .bor hs), .val (.lst .bor (ts.map eT)), .val (.str z), .val (.int n), .val (.lst f ((sortS (hs.map (·.1))).map D.str)), .val s6, .no, .no, .no, .no, .no], [none, none, none]⟩ = .nx ⟨[.val (eW .bor A hs ts), .val (eH .bor hs), .val (.lst .bor (ts.map eT)), .val (.str z), .val (.int n), .val (.lst .frz ((sortS (hs.map (·.1))).map D.str)), .val s6, .no, .no, .no, .no, .no], [none, none, none]⟩ := by
  have io : VL.isObj A.c_Web "neighbours" (eW .bor A hs ts) = true := by
    show (decide (A.c_Web = A.c_Web) && (decide (kS "strong" ≠ kS "neighbours") && (decide (kS "pairs" ≠ kS "neighbours") && true))) = true
    rw [decide_eq_true rfl, decide_eq_true (show kS "strong" ≠ kS "neighbours" by decide), decide_eq_true (show kS "pairs" ≠ kS "neighbours" by decide)]
    rfl
  have io2 : VL.isObj A.c_Web "strength" (eW .bor A hs ts) = true := by
    show (decide (A.c_Web = A.c_Web) && (decide (kS "strong" ≠ kS "strength") && (decide (kS "pairs" ≠ kS "strength") && true))) = true
    rw [decide_eq_true rfl, decide_eq_true (show kS "strong" ≠ kS "strength" by decide), decide_eq_true (show kS "pairs" ≠ kS "strength" by decide)]
    rfl
  have hz : z ∈ hs.map (·.1) := List.mem_map_of_mem (f := (·.1)) m
  have ok : ∀ x ∈ sortS (nearP z (prs ts)), PyData.strOk x = true := fun x hx => nm_ok (h.mem (near_mem t (sortS_mem.mp hx)))
  have ls : (nearP z (prs ts)).length < sizeLine := Nat.lt_of_le_of_lt (near_len t) (Nat.lt_of_lt_of_le t.few (by decide))
  have il := in_loop (K := K) (A := A) (h1 := eH .bor hs) (h2 := .lst .bor (ts.map eT)) (h3 := .int n) (s5 := .lst .frz ((sortS (hs.map (·.1))).map D.str)) (s6 := s6) h t hz (sortS (hs.map (·.1))) fun y hy => sortS_mem.mp hy
  unfold B1__law_right
  rcases hf with rfl | rfl
  · simp -implicitDefEqProofs only [bind_ok, bind_ex, bind_no, pure_ok, pure_ex, pure_no, seqE_ok, seqE_ex, seqE_no, seqS_nx, seqS_rt, seqS_ex, seqS_bk, seqS_ct, seqS_no, sNext_ap, sBreak_ap, sCont_ap, sRetN_ap, sSeq_ap, sDrop_ap, sRet_ap, sSet_ap, sIf_ap, condS_t, condS_f, sKillO_ap, killO_nx, killO_bk, killO_ct, killO_rt, killO_ex, kill_cons, kill_nil, sAsg_ap, asgK_ap, sRaise_ap, sFor_ap, forK_ap, setS_mk, setA_mk, look_mk, lookS_val, lookS_arg, qV_ap, oD_some, lc_mk, lcS_val, lcS_arg, get_s, get_a, rm_s, rm_a, put_s, put_a, view_mk, Sl.view_val, Sl.view_arg, Sl.view_no, wipe_nil, wipe_cons, qC_ap, qOp_ap, qUn_ap, qCB_ap, aNil_ap, aCons_ap, tV_ap, tNot_ap, tAnd_ap, tOr_ap, condT_y, condT_tf, condT_ft, tYes_ap, qNot_ap, qAnd_ap, qOr_ap, condQ_y, condQ_tf, condQ_ft, qIf_ap, pickQ_t, pickQ_f, qTup_ap, qLst_ap, qFld_ap, oNone_ap, oSome_ap, qSl_ap, qLc_ap, iSeq_ap, iRange_ap, qCall_ap, qMeth_ap, qM1_ap, gQ_ap, liftO_ok, liftO_ex, gQT_ap, liftT_ok, liftT_ex, gMove_mk, gFz_mk, gOp_ap, gOpK_ap, gUn_ap, gCB_ap, finG_ok, gNil_ap, gCons_ap, gConsK_ap, lNil_ap, lCons_ap, lConsK_ap, gTupL_ap, gLstL_ap, gSt_ap, gTV_ap, gNot_ap, gAnd_ap, gOr_ap, condG_y, condG_tf, condG_ft, gIf_ap, pickG_t, pickG_f, giSeq_ap, giRange_ap, ofOG_some, ofO_some, gCall_ap, gCallK_ap, afterG_rt, afterG_ex, gMake_ap, gMakeK_ap, makeG_rt, makeG_ex, gLm_ap, isLst_ap, gLmK_ap, pNm_ap, pNmK_some, fnF_ap, finF_rt, finF_nx, finF_ex, sSubL_ap, subK_ap, faQ_ap, faQK_some, startP, stS, stA, okA, takeH, evalA, exP, Ag.sl, putH, toB, toI, lenV_ap, lenN_l, lenN_t, addV_i, subV_i, mulV_i, fdivV_i, modV_i, ltV_i, leV_i, gtV_i, geV_i, negV_i, eqV_i, eqV_s, eqV_b, neV_i, neV_s, neV_b, addV_s, addV_l, addV_t, ixV_t, ixV_tk, ixV_l, ixV_s, at_0, at_1, at_2, at_3, ix_0, ix_1, ix_2, decide_true, decide_false, mkTup, mkLst, mkTupG, mkLstG, fAppend, fExtend, fInsert, fClear, fPop, fRev, mkLc, D.free, D.up, D.st, D.view, D.fz, D.mapF, D.mapFL, viewF, fzF, D.noOwn, D.noBor, D.kept, D.allF, D.allFL, ownF, borF, keepF, List.map_cons, List.map_nil, List.length_cons, List.length_nil, List.length_map, List.replicate, List.cons_append, List.nil_append, List.append_nil, List.getElem?_cons_zero, List.getElem?_cons_succ, List.getElem?_nil, List.set_cons_zero, List.set_cons_succ, List.set_nil, Option.bind_some, Option.bind_none, Option.map_some, Option.map_none, id, Nat.zero_add, Nat.reduceAdd, Nat.reduceSub, Nat.sub_self, Nat.sub_zero, if_true, if_false, Bool.false_eq_true, Bool.and_true, Bool.true_and, Bool.not_true, Bool.not_false, and_true, true_and, and_self, reduceCtorEq, ne_eq, not_false_eq_true, sz_le, sz_lt, Nat.reduceLeDiff, ints_all, strs_all, callQ_ap, callK_some, giveQ_nil, giveQ_r, giveQ_k, resQ_rt, resQ_ex, q_str, q_int, q_bl, q_non, q_tup, q_lst, q_dic, q_dit, q_obj, qChain_ap, lenN_s, listV_t, listV_l, listV_d, tupleV_l, lenN_d, ixV_d, slV_l, all_true, ints_mp, strs_mp, fldD_ap, sFldF_ap, rndK_nx, rndK_ct, rndK_bk, rndK_rt, rndK_ex, forV_cons, forV_nil, sForMv_ap, mvK_some, pFld_ap, pFldK_o, pIx_ap, pIxK_l, pIxK_t, pIxK_d, gLmP_ap, gLmPK_ok, gLmPK_ex, mqNil_ap, mqCons_ap, Function.comp_apply, Function.comp_id, Function.id_comp, neV_strs, io, io2, web_view (f := .bor) rfl, f_neighbours h t hz, f_strength h m, f_law_of h t, near_same t, neV_strs ok, strs_mp, eTs_map, itemsD, sortS_length, ls, il, isi_of (d := .lst .own ((sortS (nearP z (prs ts))).map D.str)) (s := "list") (t := "list") (b := true) rfl rfl]
  · simp -implicitDefEqProofs only [bind_ok, bind_ex, bind_no, pure_ok, pure_ex, pure_no, seqE_ok, seqE_ex, seqE_no, seqS_nx, seqS_rt, seqS_ex, seqS_bk, seqS_ct, seqS_no, sNext_ap, sBreak_ap, sCont_ap, sRetN_ap, sSeq_ap, sDrop_ap, sRet_ap, sSet_ap, sIf_ap, condS_t, condS_f, sKillO_ap, killO_nx, killO_bk, killO_ct, killO_rt, killO_ex, kill_cons, kill_nil, sAsg_ap, asgK_ap, sRaise_ap, sFor_ap, forK_ap, setS_mk, setA_mk, look_mk, lookS_val, lookS_arg, qV_ap, oD_some, lc_mk, lcS_val, lcS_arg, get_s, get_a, rm_s, rm_a, put_s, put_a, view_mk, Sl.view_val, Sl.view_arg, Sl.view_no, wipe_nil, wipe_cons, qC_ap, qOp_ap, qUn_ap, qCB_ap, aNil_ap, aCons_ap, tV_ap, tNot_ap, tAnd_ap, tOr_ap, condT_y, condT_tf, condT_ft, tYes_ap, qNot_ap, qAnd_ap, qOr_ap, condQ_y, condQ_tf, condQ_ft, qIf_ap, pickQ_t, pickQ_f, qTup_ap, qLst_ap, qFld_ap, oNone_ap, oSome_ap, qSl_ap, qLc_ap, iSeq_ap, iRange_ap, qCall_ap, qMeth_ap, qM1_ap, gQ_ap, liftO_ok, liftO_ex, gQT_ap, liftT_ok, liftT_ex, gMove_mk, gFz_mk, gOp_ap, gOpK_ap, gUn_ap, gCB_ap, finG_ok, gNil_ap, gCons_ap, gConsK_ap, lNil_ap, lCons_ap, lConsK_ap, gTupL_ap, gLstL_ap, gSt_ap, gTV_ap, gNot_ap, gAnd_ap, gOr_ap, condG_y, condG_tf, condG_ft, gIf_ap, pickG_t, pickG_f, giSeq_ap, giRange_ap, ofOG_some, ofO_some, gCall_ap, gCallK_ap, afterG_rt, afterG_ex, gMake_ap, gMakeK_ap, makeG_rt, makeG_ex, gLm_ap, isLst_ap, gLmK_ap, pNm_ap, pNmK_some, fnF_ap, finF_rt, finF_nx, finF_ex, sSubL_ap, subK_ap, faQ_ap, faQK_some, startP, stS, stA, okA, takeH, evalA, exP, Ag.sl, putH, toB, toI, lenV_ap, lenN_l, lenN_t, addV_i, subV_i, mulV_i, fdivV_i, modV_i, ltV_i, leV_i, gtV_i, geV_i, negV_i, eqV_i, eqV_s, eqV_b, neV_i, neV_s, neV_b, addV_s, addV_l, addV_t, ixV_t, ixV_tk, ixV_l, ixV_s, at_0, at_1, at_2, at_3, ix_0, ix_1, ix_2, decide_true, decide_false, mkTup, mkLst, mkTupG, mkLstG, fAppend, fExtend, fInsert, fClear, fPop, fRev, mkLc, D.free, D.up, D.st, D.view, D.fz, D.mapF, D.mapFL, viewF, fzF, D.noOwn, D.noBor, D.kept, D.allF, D.allFL, ownF, borF, keepF, List.map_cons, List.map_nil, List.length_cons, List.length_nil, List.length_map, List.replicate, List.cons_append, List.nil_append, List.append_nil, List.getElem?_cons_zero, List.getElem?_cons_succ, List.getElem?_nil, List.set_cons_zero, List.set_cons_succ, List.set_nil, Option.bind_some, Option.bind_none, Option.map_some, Option.map_none, id, Nat.zero_add, Nat.reduceAdd, Nat.reduceSub, Nat.sub_self, Nat.sub_zero, if_true, if_false, Bool.false_eq_true, Bool.and_true, Bool.true_and, Bool.not_true, Bool.not_false, and_true, true_and, and_self, reduceCtorEq, ne_eq, not_false_eq_true, sz_le, sz_lt, Nat.reduceLeDiff, ints_all, strs_all, callQ_ap, callK_some, giveQ_nil, giveQ_r, giveQ_k, resQ_rt, resQ_ex, q_str, q_int, q_bl, q_non, q_tup, q_lst, q_dic, q_dit, q_obj, qChain_ap, lenN_s, listV_t, listV_l, listV_d, tupleV_l, lenN_d, ixV_d, slV_l, all_true, ints_mp, strs_mp, fldD_ap, sFldF_ap, rndK_nx, rndK_ct, rndK_bk, rndK_rt, rndK_ex, forV_cons, forV_nil, sForMv_ap, mvK_some, pFld_ap, pFldK_o, pIx_ap, pIxK_l, pIxK_t, pIxK_d, gLmP_ap, gLmPK_ok, gLmPK_ex, mqNil_ap, mqCons_ap, Function.comp_apply, Function.comp_id, Function.id_comp, neV_strs, io, io2, web_view (f := .bor) rfl, f_neighbours h t hz, f_strength h m, f_law_of h t, near_same t, neV_strs ok, strs_mp, eTs_map, itemsD, sortS_length, ls, il, isi_of (d := .lst .own ((sortS (nearP z (prs ts))).map D.str)) (s := "list") (t := "list") (b := true) rfl rfl]
theorem right_loop {hs : List (Str × Int)} {ts : List (Str × Str)} {s6 : D} (h : HOk hs) (t : TOk hs ts) : ∀ (es : List (Str × Int)) (u v : Sl) (f : Fl), (f = .own ∨ f = .frz) → (∀ e ∈ es, e ∈ hs) → ∃ (u' v' : Sl) (f' : Fl), (f' = .own ∨ f' = .frz) ∧
    forV (.tp [.nm 3, .nm 4]) (B1__law_right K A) (es.map eP) ⟨[.val (eW .bor A hs ts), .val (eH .bor hs), .val (.lst .bor (ts.map eT)), u, v, .val (.lst f ((sortS (hs.map (·.1))).map D.str)), .val s6, .no, .no, .no, .no, .no], [none, none, none]⟩ = .nx ⟨[.val (eW .bor A hs ts), .val (eH .bor hs), .val (.lst .bor (ts.map eT)), u', v', .val (.lst f' ((sortS (hs.map (·.1))).map D.str)), .val s6, .no, .no, .no, .no, .no], [none, none, none]⟩
  | [], u, v, f, hf, _ => ⟨u, v, f, hf, rfl⟩
  | (z, n) :: es, u, v, f, hf, hm => by
    obtain ⟨u', v', f', hf', e⟩ := right_loop h t es (.val (.str z)) (.val (.int n)) .frz (.inr rfl) fun x m => hm x (by simp [m])
    refine ⟨u', v', f', hf', ?_⟩
    rw [List.map_cons, forV_nx rfl (right_round hf h t (hm _ (by simp)))]
    exact e
theorem told_round {u v x5 : Sl} {w h1 h2 : D} {xs : List D} (hx : xs.length < sizeLine) : B2__law_right K A ⟨[.val w, .val h1, .val h2, u, v, x5, .no, .no, .no, .no, .val (.lst .own xs), .no], [none, none, none]⟩ = .nx ⟨[.val w, .val h1, .val h2, u, v, x5, .no, .no, .no, .no, .no, .no], [none, none, none]⟩ := by
  unfold B2__law_right
  simp -implicitDefEqProofs only [bind_ok, bind_ex, bind_no, pure_ok, pure_ex, pure_no, seqE_ok, seqE_ex, seqE_no, seqS_nx, seqS_rt, seqS_ex, seqS_bk, seqS_ct, seqS_no, sNext_ap, sBreak_ap, sCont_ap, sRetN_ap, sSeq_ap, sDrop_ap, sRet_ap, sSet_ap, sIf_ap, condS_t, condS_f, sKillO_ap, killO_nx, killO_bk, killO_ct, killO_rt, killO_ex, kill_cons, kill_nil, sAsg_ap, asgK_ap, sRaise_ap, sFor_ap, forK_ap, setS_mk, setA_mk, look_mk, lookS_val, lookS_arg, qV_ap, oD_some, lc_mk, lcS_val, lcS_arg, get_s, get_a, rm_s, rm_a, put_s, put_a, view_mk, Sl.view_val, Sl.view_arg, Sl.view_no, wipe_nil, wipe_cons, qC_ap, qOp_ap, qUn_ap, qCB_ap, aNil_ap, aCons_ap, tV_ap, tNot_ap, tAnd_ap, tOr_ap, condT_y, condT_tf, condT_ft, tYes_ap, qNot_ap, qAnd_ap, qOr_ap, condQ_y, condQ_tf, condQ_ft, qIf_ap, pickQ_t, pickQ_f, qTup_ap, qLst_ap, qFld_ap, oNone_ap, oSome_ap, qSl_ap, qLc_ap, iSeq_ap, iRange_ap, qCall_ap, qMeth_ap, qM1_ap, gQ_ap, liftO_ok, liftO_ex, gQT_ap, liftT_ok, liftT_ex, gMove_mk, gFz_mk, gOp_ap, gOpK_ap, gUn_ap, gCB_ap, finG_ok, gNil_ap, gCons_ap, gConsK_ap, lNil_ap, lCons_ap, lConsK_ap, gTupL_ap, gLstL_ap, gSt_ap, gTV_ap, gNot_ap, gAnd_ap, gOr_ap, condG_y, condG_tf, condG_ft, gIf_ap, pickG_t, pickG_f, giSeq_ap, giRange_ap, ofOG_some, ofO_some, gCall_ap, gCallK_ap, afterG_rt, afterG_ex, gMake_ap, gMakeK_ap, makeG_rt, makeG_ex, gLm_ap, isLst_ap, gLmK_ap, pNm_ap, pNmK_some, fnF_ap, finF_rt, finF_nx, finF_ex, sSubL_ap, subK_ap, faQ_ap, faQK_some, startP, stS, stA, okA, takeH, evalA, exP, Ag.sl, putH, toB, toI, lenV_ap, lenN_l, lenN_t, addV_i, subV_i, mulV_i, fdivV_i, modV_i, ltV_i, leV_i, gtV_i, geV_i, negV_i, eqV_i, eqV_s, eqV_b, neV_i, neV_s, neV_b, addV_s, addV_l, addV_t, ixV_t, ixV_tk, ixV_l, ixV_s, at_0, at_1, at_2, at_3, ix_0, ix_1, ix_2, decide_true, decide_false, mkTup, mkLst, mkTupG, mkLstG, fAppend, fExtend, fInsert, fClear, fPop, fRev, mkLc, D.free, D.up, D.st, D.view, D.fz, D.mapF, D.mapFL, viewF, fzF, D.noOwn, D.noBor, D.kept, D.allF, D.allFL, ownF, borF, keepF, List.map_cons, List.map_nil, List.length_cons, List.length_nil, List.length_map, List.replicate, List.cons_append, List.nil_append, List.append_nil, List.getElem?_cons_zero, List.getElem?_cons_succ, List.getElem?_nil, List.set_cons_zero, List.set_cons_succ, List.set_nil, Option.bind_some, Option.bind_none, Option.map_some, Option.map_none, id, Nat.zero_add, Nat.reduceAdd, Nat.reduceSub, Nat.sub_self, Nat.sub_zero, if_true, if_false, Bool.false_eq_true, Bool.and_true, Bool.true_and, Bool.not_true, Bool.not_false, and_true, true_and, and_self, reduceCtorEq, ne_eq, not_false_eq_true, sz_le, sz_lt, Nat.reduceLeDiff, ints_all, strs_all, callQ_ap, callK_some, giveQ_nil, giveQ_r, giveQ_k, resQ_rt, resQ_ex, q_str, q_int, q_bl, q_non, q_tup, q_lst, q_dic, q_dit, q_obj, qChain_ap, lenN_s, listV_t, listV_l, listV_d, tupleV_l, lenN_d, ixV_d, slV_l, all_true, ints_mp, strs_mp, fldD_ap, sFldF_ap, rndK_nx, rndK_ct, rndK_bk, rndK_rt, rndK_ex, forV_cons, forV_nil, sForMv_ap, mvK_some, pFld_ap, pFldK_o, pIx_ap, pIxK_l, pIxK_t, pIxK_d, gLmP_ap, gLmPK_ok, gLmPK_ex, mqNil_ap, mqCons_ap, Function.comp_apply, Function.comp_id, Function.id_comp, neV_strs, hx]
theorem f_right {hs : List (Str × Int)} {ts : List (Str × Str)} (h : HOk hs) (t : TOk hs ts) (h1 : 1 ≤ hs.length) (h8 : hs.length ≤ 8) : F__law_right K A [eW .bor A hs ts, eH .bor hs, .lst .bor (ts.map eT)] = .rt (.bl true) [none, none, none] := by
  have io : VL.isObj A.c_Web "hands" (eW .bor A hs ts) = true := by
    show (decide (A.c_Web = A.c_Web) && (decide (kS "strong" ≠ kS "hands") && (decide (kS "pairs" ≠ kS "hands") && true))) = true
    rw [decide_eq_true rfl, decide_eq_true (show kS "strong" ≠ kS "hands" by decide), decide_eq_true (show kS "pairs" ≠ kS "hands" by decide)]
    rfl
  have io2 : VL.isObj A.c_Web "ties" (eW .bor A hs ts) = true := by
    show (decide (A.c_Web = A.c_Web) && (decide (kS "strong" ≠ kS "ties") && (decide (kS "pairs" ≠ kS "ties") && true))) = true
    rw [decide_eq_true rfl, decide_eq_true (show kS "strong" ≠ kS "ties" by decide), decide_eq_true (show kS "pairs" ≠ kS "ties" by decide)]
    rfl
  have io3 : VL.isObj A.c_Web "most_neighbours" (eW .bor A hs ts) = true := by
    show (decide (A.c_Web = A.c_Web) && (decide (kS "strong" ≠ kS "most_neighbours") && (decide (kS "pairs" ≠ kS "most_neighbours") && true))) = true
    rw [decide_eq_true rfl, decide_eq_true (show kS "strong" ≠ kS "most_neighbours" by decide), decide_eq_true (show kS "pairs" ≠ kS "most_neighbours" by decide)]
    rfl
  have z1 : ts.length ≤ sizeLine := Nat.le_trans (Nat.le_of_lt t.few) (by decide)
  have z2 : hs.length ≤ sizeLine := Nat.le_trans h8 (by decide)
  have z3 : (prs ts).length = ts.length := by unfold prs; rw [sortT_length, List.length_map]
  have c1 : compV (.tp [.nm 3, .nm 4]) tYes (qV 3) ⟨[.val (eW .bor A hs ts), .val (eH .bor hs), .val (.lst .bor (ts.map eT)), .no, .no, .no, .no, .no, .no, .no, .no, .no], [none, none, none]⟩ (hs.map eP) = .ok ((hs.map (·.1)).map D.str) := by
    rw [List.map_map]
    exact compV_map hs fun e m => ⟨_, rfl, rfl, rfl, rfl, rfl⟩
  have sv := sortV_strs (f := .new) (xs := hs.map (·.1)) fun x m => nm_ok (h.mem m)
  have c2 : ∀ {s : List Sl} {a : List (Option D)}, s.length = 12 → compV (Tg.nm 11) VL.tYes (qCB tupleV (aCons (qCB sortV (aCons (qCB listV (aCons (qV 11) aNil)) aNil)) aNil)) ⟨s, a⟩ (ts.map eT) = .ok ((ts.map srt).map tupS) := fun {s a} hs => by
    rw [List.map_map]
    refine compV_map ts fun e m => ?_
    match s, hs with
    | [x0, x1, x2, x3, x4, x5, x6, x7, x8, x9, x10, x11], _ =>
      refine ⟨_, put_nm, rfl, ?_, rfl, tupS_all⟩
      obtain ⟨q1, q2, q3⟩ := t.at' e m
      have e := sortV_strs (f := .new) (xs := [e.1, e.2]) (by simp [nm_ok (h.mem q1), nm_ok (h.mem q2)])
      simp only [List.map_cons, List.map_nil] at e
      simp -implicitDefEqProofs only [bind_ok, bind_ex, bind_no, pure_ok, pure_ex, pure_no, seqE_ok, seqE_ex, seqE_no, seqS_nx, seqS_rt, seqS_ex, seqS_bk, seqS_ct, seqS_no, sNext_ap, sBreak_ap, sCont_ap, sRetN_ap, sSeq_ap, sDrop_ap, sRet_ap, sSet_ap, sIf_ap, condS_t, condS_f, sKillO_ap, killO_nx, killO_bk, killO_ct, killO_rt, killO_ex, kill_cons, kill_nil, sAsg_ap, asgK_ap, sRaise_ap, sFor_ap, forK_ap, setS_mk, setA_mk, look_mk, lookS_val, lookS_arg, qV_ap, oD_some, lc_mk, lcS_val, lcS_arg, get_s, get_a, rm_s, rm_a, put_s, put_a, view_mk, Sl.view_val, Sl.view_arg, Sl.view_no, wipe_nil, wipe_cons, qC_ap, qOp_ap, qUn_ap, qCB_ap, aNil_ap, aCons_ap, tV_ap, tNot_ap, tAnd_ap, tOr_ap, condT_y, condT_tf, condT_ft, tYes_ap, qNot_ap, qAnd_ap, qOr_ap, condQ_y, condQ_tf, condQ_ft, qIf_ap, pickQ_t, pickQ_f, qTup_ap, qLst_ap, qFld_ap, oNone_ap, oSome_ap, qSl_ap, qLc_ap, iSeq_ap, iRange_ap, qCall_ap, qMeth_ap, qM1_ap, gQ_ap, liftO_ok, liftO_ex, gQT_ap, liftT_ok, liftT_ex, gMove_mk, gFz_mk, gOp_ap, gOpK_ap, gUn_ap, gCB_ap, finG_ok, gNil_ap, gCons_ap, gConsK_ap, lNil_ap, lCons_ap, lConsK_ap, gTupL_ap, gLstL_ap, gSt_ap, gTV_ap, gNot_ap, gAnd_ap, gOr_ap, condG_y, condG_tf, condG_ft, gIf_ap, pickG_t, pickG_f, giSeq_ap, giRange_ap, ofOG_some, ofO_some, gCall_ap, gCallK_ap, afterG_rt, afterG_ex, gMake_ap, gMakeK_ap, makeG_rt, makeG_ex, gLm_ap, isLst_ap, gLmK_ap, pNm_ap, pNmK_some, fnF_ap, finF_rt, finF_nx, finF_ex, sSubL_ap, subK_ap, faQ_ap, faQK_some, startP, stS, stA, okA, takeH, evalA, exP, Ag.sl, putH, toB, toI, lenV_ap, lenN_l, lenN_t, addV_i, subV_i, mulV_i, fdivV_i, modV_i, ltV_i, leV_i, gtV_i, geV_i, negV_i, eqV_i, eqV_s, eqV_b, neV_i, neV_s, neV_b, addV_s, addV_l, addV_t, ixV_t, ixV_tk, ixV_l, ixV_s, at_0, at_1, at_2, at_3, ix_0, ix_1, ix_2, decide_true, decide_false, mkTup, mkLst, mkTupG, mkLstG, fAppend, fExtend, fInsert, fClear, fPop, fRev, mkLc, D.free, D.up, D.st, D.view, D.fz, D.mapF, D.mapFL, viewF, fzF, D.noOwn, D.noBor, D.kept, D.allF, D.allFL, ownF, borF, keepF, List.map_cons, List.map_nil, List.length_cons, List.length_nil, List.length_map, List.replicate, List.cons_append, List.nil_append, List.append_nil, List.getElem?_cons_zero, List.getElem?_cons_succ, List.getElem?_nil, List.set_cons_zero, List.set_cons_succ, List.set_nil, Option.bind_some, Option.bind_none, Option.map_some, Option.map_none, id, Nat.zero_add, Nat.reduceAdd, Nat.reduceSub, Nat.sub_self, Nat.sub_zero, if_true, if_false, Bool.false_eq_true, Bool.and_true, Bool.true_and, Bool.not_true, Bool.not_false, and_true, true_and, and_self, reduceCtorEq, ne_eq, not_false_eq_true, sz_le, sz_lt, Nat.reduceLeDiff, ints_all, strs_all, callQ_ap, callK_some, giveQ_nil, giveQ_r, giveQ_k, resQ_rt, resQ_ex, q_str, q_int, q_bl, q_non, q_tup, q_lst, q_dic, q_dit, q_obj, qChain_ap, lenN_s, listV_t, listV_l, listV_d, tupleV_l, lenN_d, ixV_d, slV_l, all_true, ints_mp, strs_mp, fldD_ap, sFldF_ap, rndK_nx, rndK_ct, rndK_bk, rndK_rt, rndK_ex, forV_cons, forV_nil, sForMv_ap, mvK_some, pFld_ap, pFldK_o, pIx_ap, pIxK_l, pIxK_t, pIxK_d, gLmP_ap, gLmPK_ok, gLmPK_ex, mqNil_ap, mqCons_ap, Function.comp_apply, Function.comp_id, Function.id_comp, neV_strs, listV_t, e, tupleV_l, tupS]
      rfl
  have sv2 := sortV_tups (f := .new) (ms := ts.map srt) (fun m hm w hw => by
    obtain ⟨e, me, rfl⟩ := List.mem_map.mp hm
    obtain ⟨q1, q2, _⟩ := t.at' e me
    exact srt_ok (nm_ok (h.mem q1)) (nm_ok (h.mem q2)) w hw) (fun m hm => by
    obtain ⟨e, me, rfl⟩ := List.mem_map.mp hm
    obtain ⟨a, b, e2, q⟩ := srt_two e
    rw [e2]; simp)
  have ne0 : neV (D.lst .own [D.lst .own ((sortS (hs.map (·.1))).map D.str), D.lst .own ((prs ts).map tupS)]) (D.lst .new [D.lst .own ((sortS (hs.map (·.1))).map D.str), D.lst .frz ((prs ts).map tupS)]) = .ok (.bl false) := by
    have k1 : D.okL 62 ((sortS (hs.map (·.1))).map D.str) = true := okL_strs fun x hx => nm_ok (h.mem (sortS_mem.mp hx))
    have k2 : D.okL 62 ((prs ts).map tupS) = true := okL_tups (prs_ok h t)
    have kk : ∀ f g : Fl, D.okL 63 [D.lst f ((sortS (hs.map (·.1))).map D.str), D.lst g ((prs ts).map tupS)] = true := fun f g => by
      show (D.okL 62 _ && (D.okL 62 _ && true)) = true
      rw [k1, k2]; rfl
    rw [neV_l (kk _ _) (kk _ _)]
    simp only [deqL_cons, deqL_nil, deq_lst, deqL_strs, deqL_map deq_tupS, decide_true, Bool.and_self, Bool.not_true]
  have c3 : ∀ (f : Fl) (v : Sl), compV (.nm 3) tYes (qCB lenV (aCons (qCall [.r, .r] (F__law_of K A) (aCons (qV 2) (aCons (qV 3) aNil))) aNil)) ⟨[.val (eW .bor A hs ts), .val (eH .bor hs), .val (.lst .bor (ts.map eT)), .no, v, .val (.lst f ((sortS (hs.map (·.1))).map D.str)), .no, .no, .no, .no, .no, .no], [none, none, none]⟩ ((sortS (hs.map (·.1))).map D.str) = .ok (((sortS (hs.map (·.1))).map fun z => ((nearP z (prs ts)).length : Int)).map D.int) := fun f v => by
    rw [List.map_map (f := fun z => ((nearP z (prs ts)).length : Int)) (g := D.int)]
    refine compV_map _ fun z m => ⟨_, put_nm, rfl, ?_, rfl, rfl⟩
    simp -implicitDefEqProofs only [bind_ok, bind_ex, bind_no, pure_ok, pure_ex, pure_no, seqE_ok, seqE_ex, seqE_no, seqS_nx, seqS_rt, seqS_ex, seqS_bk, seqS_ct, seqS_no, sNext_ap, sBreak_ap, sCont_ap, sRetN_ap, sSeq_ap, sDrop_ap, sRet_ap, sSet_ap, sIf_ap, condS_t, condS_f, sKillO_ap, killO_nx, killO_bk, killO_ct, killO_rt, killO_ex, kill_cons, kill_nil, sAsg_ap, asgK_ap, sRaise_ap, sFor_ap, forK_ap, setS_mk, setA_mk, look_mk, lookS_val, lookS_arg, qV_ap, oD_some, lc_mk, lcS_val, lcS_arg, get_s, get_a, rm_s, rm_a, put_s, put_a, view_mk, Sl.view_val, Sl.view_arg, Sl.view_no, wipe_nil, wipe_cons, qC_ap, qOp_ap, qUn_ap, qCB_ap, aNil_ap, aCons_ap, tV_ap, tNot_ap, tAnd_ap, tOr_ap, condT_y, condT_tf, condT_ft, tYes_ap, qNot_ap, qAnd_ap, qOr_ap, condQ_y, condQ_tf, condQ_ft, qIf_ap, pickQ_t, pickQ_f, qTup_ap, qLst_ap, qFld_ap, oNone_ap, oSome_ap, qSl_ap, qLc_ap, iSeq_ap, iRange_ap, qCall_ap, qMeth_ap, qM1_ap, gQ_ap, liftO_ok, liftO_ex, gQT_ap, liftT_ok, liftT_ex, gMove_mk, gFz_mk, gOp_ap, gOpK_ap, gUn_ap, gCB_ap, finG_ok, gNil_ap, gCons_ap, gConsK_ap, lNil_ap, lCons_ap, lConsK_ap, gTupL_ap, gLstL_ap, gSt_ap, gTV_ap, gNot_ap, gAnd_ap, gOr_ap, condG_y, condG_tf, condG_ft, gIf_ap, pickG_t, pickG_f, giSeq_ap, giRange_ap, ofOG_some, ofO_some, gCall_ap, gCallK_ap, afterG_rt, afterG_ex, gMake_ap, gMakeK_ap, makeG_rt, makeG_ex, gLm_ap, isLst_ap, gLmK_ap, pNm_ap, pNmK_some, fnF_ap, finF_rt, finF_nx, finF_ex, sSubL_ap, subK_ap, faQ_ap, faQK_some, startP, stS, stA, okA, takeH, evalA, exP, Ag.sl, putH, toB, toI, lenV_ap, lenN_l, lenN_t, addV_i, subV_i, mulV_i, fdivV_i, modV_i, ltV_i, leV_i, gtV_i, geV_i, negV_i, eqV_i, eqV_s, eqV_b, neV_i, neV_s, neV_b, addV_s, addV_l, addV_t, ixV_t, ixV_tk, ixV_l, ixV_s, at_0, at_1, at_2, at_3, ix_0, ix_1, ix_2, decide_true, decide_false, mkTup, mkLst, mkTupG, mkLstG, fAppend, fExtend, fInsert, fClear, fPop, fRev, mkLc, D.free, D.up, D.st, D.view, D.fz, D.mapF, D.mapFL, viewF, fzF, D.noOwn, D.noBor, D.kept, D.allF, D.allFL, ownF, borF, keepF, List.map_cons, List.map_nil, List.length_cons, List.length_nil, List.length_map, List.replicate, List.cons_append, List.nil_append, List.append_nil, List.getElem?_cons_zero, List.getElem?_cons_succ, List.getElem?_nil, List.set_cons_zero, List.set_cons_succ, List.set_nil, Option.bind_some, Option.bind_none, Option.map_some, Option.map_none, id, Nat.zero_add, Nat.reduceAdd, Nat.reduceSub, Nat.sub_self, Nat.sub_zero, if_true, if_false, Bool.false_eq_true, Bool.and_true, Bool.true_and, Bool.not_true, Bool.not_false, and_true, true_and, and_self, reduceCtorEq, ne_eq, not_false_eq_true, sz_le, sz_lt, Nat.reduceLeDiff, ints_all, strs_all, callQ_ap, callK_some, giveQ_nil, giveQ_r, giveQ_k, resQ_rt, resQ_ex, q_str, q_int, q_bl, q_non, q_tup, q_lst, q_dic, q_dit, q_obj, qChain_ap, lenN_s, listV_t, listV_l, listV_d, tupleV_l, lenN_d, ixV_d, slV_l, all_true, ints_mp, strs_mp, fldD_ap, sFldF_ap, rndK_nx, rndK_ct, rndK_bk, rndK_rt, rndK_ex, forV_cons, forV_nil, sForMv_ap, mvK_some, pFld_ap, pFldK_o, pIx_ap, pIxK_l, pIxK_t, pIxK_d, gLmP_ap, gLmPK_ok, gLmPK_ex, mqNil_ap, mqCons_ap, Function.comp_apply, Function.comp_id, Function.id_comp, neV_strs, f_law_of h t, near_same t, eTs_map, strs_mp, sortS_length]
  have ne : ((sortS (hs.map (·.1))).map fun z => ((nearP z (prs ts)).length : Int)) ≠ [] := by
    intro q
    have := congrArg List.length q
    simp [sortS_length] at this
    subst this
    simp at h1
  have mx : maxI ((hs.map (·.1)).map fun z => ((nearP z (prs ts)).length : Int)) = maxI ((sortS (hs.map (·.1))).map fun z => ((nearP z (prs ts)).length : Int)) := (maxI_perm ((List.mergeSort_perm _ leS).map _) ne).symm
  have n1 : hs.length < sizeLine := Nat.lt_of_le_of_lt h8 (by decide)
  have n2 : ts.length < sizeLine := Nat.lt_of_lt_of_le t.few (by decide)
  obtain ⟨u, v, f, hf, rl⟩ := right_loop (K := K) (A := A) (s6 := D.lst .own [D.lst .own ((sortS (hs.map (·.1))).map D.str), D.lst .own ((prs ts).map tupS)]) h t hs .no .no .own (.inl rfl) fun e m => m
  unfold F__law_right
  rcases hf with rfl | rfl
  all_goals simp -implicitDefEqProofs only [bind_ok, bind_ex, bind_no, pure_ok, pure_ex, pure_no, seqE_ok, seqE_ex, seqE_no, seqS_nx, seqS_rt, seqS_ex, seqS_bk, seqS_ct, seqS_no, sNext_ap, sBreak_ap, sCont_ap, sRetN_ap, sSeq_ap, sDrop_ap, sRet_ap, sSet_ap, sIf_ap, condS_t, condS_f, sKillO_ap, killO_nx, killO_bk, killO_ct, killO_rt, killO_ex, kill_cons, kill_nil, sAsg_ap, asgK_ap, sRaise_ap, sFor_ap, forK_ap, setS_mk, setA_mk, look_mk, lookS_val, lookS_arg, qV_ap, oD_some, lc_mk, lcS_val, lcS_arg, get_s, get_a, rm_s, rm_a, put_s, put_a, view_mk, Sl.view_val, Sl.view_arg, Sl.view_no, wipe_nil, wipe_cons, qC_ap, qOp_ap, qUn_ap, qCB_ap, aNil_ap, aCons_ap, tV_ap, tNot_ap, tAnd_ap, tOr_ap, condT_y, condT_tf, condT_ft, tYes_ap, qNot_ap, qAnd_ap, qOr_ap, condQ_y, condQ_tf, condQ_ft, qIf_ap, pickQ_t, pickQ_f, qTup_ap, qLst_ap, qFld_ap, oNone_ap, oSome_ap, qSl_ap, qLc_ap, iSeq_ap, iRange_ap, qCall_ap, qMeth_ap, qM1_ap, gQ_ap, liftO_ok, liftO_ex, gQT_ap, liftT_ok, liftT_ex, gMove_mk, gFz_mk, gOp_ap, gOpK_ap, gUn_ap, gCB_ap, finG_ok, gNil_ap, gCons_ap, gConsK_ap, lNil_ap, lCons_ap, lConsK_ap, gTupL_ap, gLstL_ap, gSt_ap, gTV_ap, gNot_ap, gAnd_ap, gOr_ap, condG_y, condG_tf, condG_ft, gIf_ap, pickG_t, pickG_f, giSeq_ap, giRange_ap, ofOG_some, ofO_some, gCall_ap, gCallK_ap, afterG_rt, afterG_ex, gMake_ap, gMakeK_ap, makeG_rt, makeG_ex, gLm_ap, isLst_ap, gLmK_ap, pNm_ap, pNmK_some, fnF_ap, finF_rt, finF_nx, finF_ex, sSubL_ap, subK_ap, faQ_ap, faQK_some, startP, stS, stA, okA, takeH, evalA, exP, Ag.sl, putH, toB, toI, lenV_ap, lenN_l, lenN_t, addV_i, subV_i, mulV_i, fdivV_i, modV_i, ltV_i, leV_i, gtV_i, geV_i, negV_i, eqV_i, eqV_s, eqV_b, neV_i, neV_s, neV_b, addV_s, addV_l, addV_t, ixV_t, ixV_tk, ixV_l, ixV_s, at_0, at_1, at_2, at_3, ix_0, ix_1, ix_2, decide_true, decide_false, mkTup, mkLst, mkTupG, mkLstG, fAppend, fExtend, fInsert, fClear, fPop, fRev, mkLc, D.free, D.up, D.st, D.view, D.fz, D.mapF, D.mapFL, viewF, fzF, D.noOwn, D.noBor, D.kept, D.allF, D.allFL, ownF, borF, keepF, List.map_cons, List.map_nil, List.length_cons, List.length_nil, List.length_map, List.replicate, List.cons_append, List.nil_append, List.append_nil, List.getElem?_cons_zero, List.getElem?_cons_succ, List.getElem?_nil, List.set_cons_zero, List.set_cons_succ, List.set_nil, Option.bind_some, Option.bind_none, Option.map_some, Option.map_none, id, Nat.zero_add, Nat.reduceAdd, Nat.reduceSub, Nat.sub_self, Nat.sub_zero, if_true, if_false, Bool.false_eq_true, Bool.and_true, Bool.true_and, Bool.not_true, Bool.not_false, and_true, true_and, and_self, reduceCtorEq, ne_eq, not_false_eq_true, sz_le, sz_lt, Nat.reduceLeDiff, ints_all, strs_all, callQ_ap, callK_some, giveQ_nil, giveQ_r, giveQ_k, resQ_rt, resQ_ex, q_str, q_int, q_bl, q_non, q_tup, q_lst, q_dic, q_dit, q_obj, qChain_ap, lenN_s, listV_t, listV_l, listV_d, tupleV_l, lenN_d, ixV_d, slV_l, all_true, ints_mp, strs_mp, fldD_ap, sFldF_ap, rndK_nx, rndK_ct, rndK_bk, rndK_rt, rndK_ex, forV_cons, forV_nil, sForMv_ap, mvK_some, pFld_ap, pFldK_o, pIx_ap, pIxK_l, pIxK_t, pIxK_d, gLmP_ap, gLmPK_ok, gLmPK_ex, mqNil_ap, mqCons_ap, Function.comp_apply, Function.comp_id, Function.id_comp, neV_strs, ePs_all, ePs_map, forV_cons, rndK_nx, told_round, n1, n2, sortS_length, forV_nil, c3, maxV_l ne, f_most h t h1 h8, mx, io, io2, io3, web_view (f := .bor) rfl, f_hands h, f_ties, c1, c2, sv, sv2, itemsD, z1, z2, z3, strs_mp, tupSs_map, tupSs_all, show sortT (ts.map srt) = prs ts from rfl, ne0, rl, sForMv_ap, mvK_some]

end LW

namespace LW
open PySem PySem.Spec PyProof.Rows L2 VL
variable {K : PySem.W.Frag} {A : Adr}
theorem okL_ePs {n : Nat} {hs : List (Str × Int)} (h : HOk hs) : D.okL (n + 1) (hs.map eP) = true := okL_mapV _ fun e m => by
  have : PyData.strOk e.1 = true := nm_ok (h.nm e m).1
  simp only [eP, D.ok, D.okL, this, Bool.and_self]
theorem okL_eTs {n : Nat} {hs : List (Str × Int)} {ts : List (Str × Str)} (h : HOk hs) (t : TOk hs ts) : D.okL (n + 1) (ts.map eT) = true := okL_mapV _ fun e m => by
  obtain ⟨q1, q2, _⟩ := t.at' e m
  simp only [eT, D.ok, D.okL, nm_ok (h.mem q1), nm_ok (h.mem q2), Bool.and_self]
theorem deq_eP (a b : Str × Int) : deq (eP a) (eP b) = decide (a = b) := by
  simp only [eP, deq_tup, deqL_cons, deqL_nil, deq_str, deq_int, Bool.and_true]
  rw [Bool.eq_iff_iff]; simp [Prod.ext_iff]
theorem deq_eT (a b : Str × Str) : deq (eT a) (eT b) = decide (a = b) := by
  simp only [eT, deq_tup, deqL_cons, deqL_nil, deq_str, Bool.and_true]
  rw [Bool.eq_iff_iff]; simp [Prod.ext_iff]
theorem ne_handed {hs : List (Str × Int)} {ts : List (Str × Str)} (h : HOk hs) (t : TOk hs ts) {f f1 f2 g g1 g2 : Fl} : neV (D.lst f [D.lst f1 (hs.map eP), D.lst f2 (ts.map eT)]) (D.lst g [D.lst g1 (hs.map eP), D.lst g2 (ts.map eT)]) = .ok (.bl false) := by
  have kk : ∀ f g : Fl, D.okL 63 [D.lst f (hs.map eP), D.lst g (ts.map eT)] = true := fun f g => by
    show (D.okL 62 _ && (D.okL 62 _ && true)) = true
    rw [okL_ePs h, okL_eTs h t]; rfl
  rw [neV_l (kk _ _) (kk _ _)]
  simp only [deqL_cons, deqL_nil, deq_lst, deqL_map deq_eP, deqL_map deq_eT, decide_true, Bool.and_self, Bool.not_true]
abbrev kR (A : Adr) (e : List (Str × Int) × List (Str × Str)) : D := .tup [eW .frz A e.1 e.2, eH .frz e.1, .lst .frz (e.2.map eT)]
theorem law_round {sc : D} {c : Int} {ks : List (List (Str × Int) × List (Str × Str))} {u4 u5 u7 : Sl} (hk : ks.length < 1000) : ∃ hs ts, (HOk hs ∧ TOk hs ts ∧ 1 ≤ hs.length ∧ hs.length ≤ 8) ∧ ∃ v4 v5 v7 : Sl,
    B0_law K A ⟨[.val sc, .val (.lst .own (ks.map (kR A))), .val (.int c), .no, u4, u5, .no, u7], [none]⟩ = .nx ⟨[.val sc, .val (.lst .own ((ks ++ [(hs, ts)]).map (kR A))), .no, .no, v4, v5, .no, v7], [none]⟩ := by
  obtain ⟨hs, st1, h1, g1, o1, l1, l2⟩ := hands_ok (K := K) (A := A) (st := [c]) (.inl rfl)
  obtain ⟨ts, st2, h2, g2, i2, l3⟩ := ties_ok (K := K) (A := A) g1 o1 l2
  have t := tok_of o1 i2 l3
  refine ⟨hs, ts, ⟨o1, t, l1, l2⟩, ?_⟩
  have e1 : St [c] = .lst .own [.int c] := rfl
  rw [e1] at h1
  unfold B0_law
  obtain ⟨e0, at0⟩ : ∃ e0 : Str × Int, atI (hs.map eP) 0 = some (eP e0) := by
    cases hs with
    | nil => simp at l1
    | cons e hs => exact ⟨e, at_0⟩
  have n2 : ts.length < sizeLine := Nat.lt_of_lt_of_le t.few (by decide)
  have n3 : ks.length < sizeLine := Nat.lt_trans hk (by decide)
  have wf : D.mapFK fzF (webF .own hs ts) = webF .frz hs ts := by simp only [webF, D.mapFK, D.mapF, fzF, eS_map, tupSs_map]
  simp -implicitDefEqProofs only [bind_ok, bind_ex, bind_no, pure_ok, pure_ex, pure_no, seqE_ok, seqE_ex, seqE_no, seqS_nx, seqS_rt, seqS_ex, seqS_bk, seqS_ct, seqS_no, sNext_ap, sBreak_ap, sCont_ap, sRetN_ap, sSeq_ap, sDrop_ap, sRet_ap, sSet_ap, sIf_ap, condS_t, condS_f, sKillO_ap, killO_nx, killO_bk, killO_ct, killO_rt, killO_ex, kill_cons, kill_nil, sAsg_ap, asgK_ap, sRaise_ap, sFor_ap, forK_ap, setS_mk, setA_mk, look_mk, lookS_val, lookS_arg, qV_ap, oD_some, lc_mk, lcS_val, lcS_arg, get_s, get_a, rm_s, rm_a, put_s, put_a, view_mk, Sl.view_val, Sl.view_arg, Sl.view_no, wipe_nil, wipe_cons, qC_ap, qOp_ap, qUn_ap, qCB_ap, aNil_ap, aCons_ap, tV_ap, tNot_ap, tAnd_ap, tOr_ap, condT_y, condT_tf, condT_ft, tYes_ap, qNot_ap, qAnd_ap, qOr_ap, condQ_y, condQ_tf, condQ_ft, qIf_ap, pickQ_t, pickQ_f, qTup_ap, qLst_ap, qFld_ap, oNone_ap, oSome_ap, qSl_ap, qLc_ap, iSeq_ap, iRange_ap, qCall_ap, qMeth_ap, qM1_ap, gQ_ap, liftO_ok, liftO_ex, gQT_ap, liftT_ok, liftT_ex, gMove_mk, gFz_mk, gOp_ap, gOpK_ap, gUn_ap, gCB_ap, finG_ok, gNil_ap, gCons_ap, gConsK_ap, lNil_ap, lCons_ap, lConsK_ap, gTupL_ap, gLstL_ap, gSt_ap, gTV_ap, gNot_ap, gAnd_ap, gOr_ap, condG_y, condG_tf, condG_ft, gIf_ap, pickG_t, pickG_f, giSeq_ap, giRange_ap, ofOG_some, ofO_some, gCall_ap, gCallK_ap, afterG_rt, afterG_ex, gMake_ap, gMakeK_ap, makeG_rt, makeG_ex, gLm_ap, isLst_ap, gLmK_ap, pNm_ap, pNmK_some, fnF_ap, finF_rt, finF_nx, finF_ex, sSubL_ap, subK_ap, faQ_ap, faQK_some, startP, stS, stA, okA, takeH, evalA, exP, Ag.sl, putH, toB, toI, lenV_ap, lenN_l, lenN_t, addV_i, subV_i, mulV_i, fdivV_i, modV_i, ltV_i, leV_i, gtV_i, geV_i, negV_i, eqV_i, eqV_s, eqV_b, neV_i, neV_s, neV_b, addV_s, addV_l, addV_t, ixV_t, ixV_tk, ixV_l, ixV_s, at_0, at_1, at_2, at_3, ix_0, ix_1, ix_2, decide_true, decide_false, mkTup, mkLst, mkTupG, mkLstG, fAppend, fExtend, fInsert, fClear, fPop, fRev, mkLc, D.free, D.up, D.st, D.view, D.fz, D.mapF, D.mapFL, viewF, fzF, D.noOwn, D.noBor, D.kept, D.allF, D.allFL, ownF, borF, keepF, List.map_cons, List.map_nil, List.length_cons, List.length_nil, List.length_map, List.replicate, List.cons_append, List.nil_append, List.append_nil, List.getElem?_cons_zero, List.getElem?_cons_succ, List.getElem?_nil, List.set_cons_zero, List.set_cons_succ, List.set_nil, Option.bind_some, Option.bind_none, Option.map_some, Option.map_none, id, Nat.zero_add, Nat.reduceAdd, Nat.reduceSub, Nat.sub_self, Nat.sub_zero, if_true, if_false, Bool.false_eq_true, Bool.and_true, Bool.true_and, Bool.not_true, Bool.not_false, and_true, true_and, and_self, reduceCtorEq, ne_eq, not_false_eq_true, sz_le, sz_lt, Nat.reduceLeDiff, ints_all, strs_all, callQ_ap, callK_some, giveQ_nil, giveQ_r, giveQ_k, resQ_rt, resQ_ex, q_str, q_int, q_bl, q_non, q_tup, q_lst, q_dic, q_dit, q_obj, qChain_ap, lenN_s, listV_t, listV_l, listV_d, tupleV_l, lenN_d, ixV_d, slV_l, all_true, ints_mp, strs_mp, fldD_ap, sFldF_ap, rndK_nx, rndK_ct, rndK_bk, rndK_rt, rndK_ex, forV_cons, forV_nil, sForMv_ap, mvK_some, pFld_ap, pFldK_o, pIx_ap, pIxK_l, pIxK_t, pIxK_d, gLmP_ap, gLmPK_ok, gLmPK_ex, mqNil_ap, mqCons_ap, Function.comp_apply, Function.comp_id, Function.id_comp, neV_strs, h1, h2, f_init o1 l1 l2 t, ePs_all, ePs_map, eTs_all, eTs_map, ne_handed o1 t, f_right o1 t l1 l2, web_view (f := .own) rfl, web_view (f := .bor) rfl, at0, n2, n3, wf, List.map_append]
  exact ⟨_, _, _, rfl⟩
theorem law_loop {sc : D} : ∀ (cs : List Int) (ks : List (List (Str × Int) × List (Str × Str))) (u4 u5 u7 : Sl), (∀ k ∈ ks, HOk k.1 ∧ TOk k.1 k.2 ∧ 1 ≤ k.1.length ∧ k.1.length ≤ 8) → ks.length + cs.length ≤ 100 → ∃ ks' : List (List (Str × Int) × List (Str × Str)), (∀ k ∈ ks', HOk k.1 ∧ TOk k.1 k.2 ∧ 1 ≤ k.1.length ∧ k.1.length ≤ 8) ∧ ks'.length ≤ 100 ∧ ∃ v4 v5 v7 : Sl,
    forV (.nm 2) (B0_law K A) (cs.map D.int) ⟨[.val sc, .val (.lst .own (ks.map (kR A))), .no, .no, u4, u5, .no, u7], [none]⟩ = .nx ⟨[.val sc, .val (.lst .own (ks'.map (kR A))), .no, .no, v4, v5, .no, v7], [none]⟩
  | [], ks, u4, u5, u7, hk, hl => ⟨ks, hk, by simpa using hl, _, _, _, rfl⟩
  | c :: cs, ks, u4, u5, u7, hk, hl => by
    obtain ⟨hs, ts, ok, v4, v5, v7, e⟩ := law_round (K := K) (A := A) (sc := sc) (c := c) (ks := ks) (u4 := u4) (u5 := u5) (u7 := u7) (by simp at hl; omega)
    obtain ⟨ks', ok', l', w4, w5, w7, e'⟩ := law_loop cs (ks ++ [(hs, ts)]) v4 v5 v7 (fun k m => by
      rcases List.mem_append.mp m with m | m
      · exact hk k m
      · have : k = (hs, ts) := by simpa using m
        subst this; exact ok) (by simp at hl ⊢; omega)
    exact ⟨ks', ok', l', w4, w5, w7, by rw [List.map_cons, forV_nx put_nm e]; exact e'⟩
theorem law_holds (ns : List Int) (h : ns.length ≤ 63) : ∃ os, F_law K A [.lst .loc (ns.map D.int)] = .rt (.bl true) os := by
  unfold F_law
  have ct : cutG (ns.map D.int) none (some 8) = (ns.take 8).map D.int := by
    rw [show (8 : Int) = ((8 : Nat) : Int) from rfl, cut_to, List.map_take]
  have n1 : 1 + (ns.take 8).length ≤ sizeLine := by
    have : (ns.take 8).length ≤ 8 := by simp; omega
    exact Nat.le_trans (show _ ≤ 9 by omega) (by decide)
  obtain ⟨ks, ok, l, v4, v5, v7, e⟩ := law_loop (K := K) (A := A) (sc := .lst .loc (ns.map D.int)) (0 :: ns.take 8) [] .no .no .no (fun k m => by cases m) (by simp; omega)
  rw [List.map_cons] at e
  have cv : ∀ s, s = [Sl.val (D.lst .loc (ns.map D.int)), .val (.lst .own (ks.map (kR A))), .no, .no, .no, .no, .no, .no] → compV (Tg.tp [.nm 7, .nm 4, .nm 5]) tYes (qCall [.r, .r, .r] (F__law_right K A) (aCons (qV 7) (aCons (qV 4) (aCons (qV 5) aNil)))) ⟨s, [none]⟩ (ks.map (kR A)) = .ok ((ks.map fun _ => true).map D.bl) := fun s es => by
    subst es
    rw [List.map_map]
    refine compV_map ks fun k m => ⟨_, rfl, rfl, ?_, rfl, rfl⟩
    obtain ⟨o1, t, l1, l2⟩ := ok k m
    simp -implicitDefEqProofs only [bind_ok, bind_ex, bind_no, pure_ok, pure_ex, pure_no, seqE_ok, seqE_ex, seqE_no, seqS_nx, seqS_rt, seqS_ex, seqS_bk, seqS_ct, seqS_no, sNext_ap, sBreak_ap, sCont_ap, sRetN_ap, sSeq_ap, sDrop_ap, sRet_ap, sSet_ap, sIf_ap, condS_t, condS_f, sKillO_ap, killO_nx, killO_bk, killO_ct, killO_rt, killO_ex, kill_cons, kill_nil, sAsg_ap, asgK_ap, sRaise_ap, sFor_ap, forK_ap, setS_mk, setA_mk, look_mk, lookS_val, lookS_arg, qV_ap, oD_some, lc_mk, lcS_val, lcS_arg, get_s, get_a, rm_s, rm_a, put_s, put_a, view_mk, Sl.view_val, Sl.view_arg, Sl.view_no, wipe_nil, wipe_cons, qC_ap, qOp_ap, qUn_ap, qCB_ap, aNil_ap, aCons_ap, tV_ap, tNot_ap, tAnd_ap, tOr_ap, condT_y, condT_tf, condT_ft, tYes_ap, qNot_ap, qAnd_ap, qOr_ap, condQ_y, condQ_tf, condQ_ft, qIf_ap, pickQ_t, pickQ_f, qTup_ap, qLst_ap, qFld_ap, oNone_ap, oSome_ap, qSl_ap, qLc_ap, iSeq_ap, iRange_ap, qCall_ap, qMeth_ap, qM1_ap, gQ_ap, liftO_ok, liftO_ex, gQT_ap, liftT_ok, liftT_ex, gMove_mk, gFz_mk, gOp_ap, gOpK_ap, gUn_ap, gCB_ap, finG_ok, gNil_ap, gCons_ap, gConsK_ap, lNil_ap, lCons_ap, lConsK_ap, gTupL_ap, gLstL_ap, gSt_ap, gTV_ap, gNot_ap, gAnd_ap, gOr_ap, condG_y, condG_tf, condG_ft, gIf_ap, pickG_t, pickG_f, giSeq_ap, giRange_ap, ofOG_some, ofO_some, gCall_ap, gCallK_ap, afterG_rt, afterG_ex, gMake_ap, gMakeK_ap, makeG_rt, makeG_ex, gLm_ap, isLst_ap, gLmK_ap, pNm_ap, pNmK_some, fnF_ap, finF_rt, finF_nx, finF_ex, sSubL_ap, subK_ap, faQ_ap, faQK_some, startP, stS, stA, okA, takeH, evalA, exP, Ag.sl, putH, toB, toI, lenV_ap, lenN_l, lenN_t, addV_i, subV_i, mulV_i, fdivV_i, modV_i, ltV_i, leV_i, gtV_i, geV_i, negV_i, eqV_i, eqV_s, eqV_b, neV_i, neV_s, neV_b, addV_s, addV_l, addV_t, ixV_t, ixV_tk, ixV_l, ixV_s, at_0, at_1, at_2, at_3, ix_0, ix_1, ix_2, decide_true, decide_false, mkTup, mkLst, mkTupG, mkLstG, fAppend, fExtend, fInsert, fClear, fPop, fRev, mkLc, D.free, D.up, D.st, D.view, D.fz, D.mapF, D.mapFL, viewF, fzF, D.noOwn, D.noBor, D.kept, D.allF, D.allFL, ownF, borF, keepF, List.map_cons, List.map_nil, List.length_cons, List.length_nil, List.length_map, List.replicate, List.cons_append, List.nil_append, List.append_nil, List.getElem?_cons_zero, List.getElem?_cons_succ, List.getElem?_nil, List.set_cons_zero, List.set_cons_succ, List.set_nil, Option.bind_some, Option.bind_none, Option.map_some, Option.map_none, id, Nat.zero_add, Nat.reduceAdd, Nat.reduceSub, Nat.sub_self, Nat.sub_zero, if_true, if_false, Bool.false_eq_true, Bool.and_true, Bool.true_and, Bool.not_true, Bool.not_false, and_true, true_and, and_self, reduceCtorEq, ne_eq, not_false_eq_true, sz_le, sz_lt, Nat.reduceLeDiff, ints_all, strs_all, callQ_ap, callK_some, giveQ_nil, giveQ_r, giveQ_k, resQ_rt, resQ_ex, q_str, q_int, q_bl, q_non, q_tup, q_lst, q_dic, q_dit, q_obj, qChain_ap, lenN_s, listV_t, listV_l, listV_d, tupleV_l, lenN_d, ixV_d, slV_l, all_true, ints_mp, strs_mp, fldD_ap, sFldF_ap, rndK_nx, rndK_ct, rndK_bk, rndK_rt, rndK_ex, forV_cons, forV_nil, sForMv_ap, mvK_some, pFld_ap, pFldK_o, pIx_ap, pIxK_l, pIxK_t, pIxK_d, gLmP_ap, gLmPK_ok, gLmPK_ex, mqNil_ap, mqCons_ap, Function.comp_apply, Function.comp_id, Function.id_comp, neV_strs, f_right o1 t l1 l2, web_view (f := .frz) rfl, ePs_map, eTs_map]
  have n2 : ks.length ≤ sizeLine := Nat.le_trans l (by decide)
  rw [List.map_nil] at e
  simp -implicitDefEqProofs only [bind_ok, bind_ex, bind_no, pure_ok, pure_ex, pure_no, seqE_ok, seqE_ex, seqE_no, seqS_nx, seqS_rt, seqS_ex, seqS_bk, seqS_ct, seqS_no, sNext_ap, sBreak_ap, sCont_ap, sRetN_ap, sSeq_ap, sDrop_ap, sRet_ap, sSet_ap, sIf_ap, condS_t, condS_f, sKillO_ap, killO_nx, killO_bk, killO_ct, killO_rt, killO_ex, kill_cons, kill_nil, sAsg_ap, asgK_ap, sRaise_ap, sFor_ap, forK_ap, setS_mk, setA_mk, look_mk, lookS_val, lookS_arg, qV_ap, oD_some, lc_mk, lcS_val, lcS_arg, get_s, get_a, rm_s, rm_a, put_s, put_a, view_mk, Sl.view_val, Sl.view_arg, Sl.view_no, wipe_nil, wipe_cons, qC_ap, qOp_ap, qUn_ap, qCB_ap, aNil_ap, aCons_ap, tV_ap, tNot_ap, tAnd_ap, tOr_ap, condT_y, condT_tf, condT_ft, tYes_ap, qNot_ap, qAnd_ap, qOr_ap, condQ_y, condQ_tf, condQ_ft, qIf_ap, pickQ_t, pickQ_f, qTup_ap, qLst_ap, qFld_ap, oNone_ap, oSome_ap, qSl_ap, qLc_ap, iSeq_ap, iRange_ap, qCall_ap, qMeth_ap, qM1_ap, gQ_ap, liftO_ok, liftO_ex, gQT_ap, liftT_ok, liftT_ex, gMove_mk, gFz_mk, gOp_ap, gOpK_ap, gUn_ap, gCB_ap, finG_ok, gNil_ap, gCons_ap, gConsK_ap, lNil_ap, lCons_ap, lConsK_ap, gTupL_ap, gLstL_ap, gSt_ap, gTV_ap, gNot_ap, gAnd_ap, gOr_ap, condG_y, condG_tf, condG_ft, gIf_ap, pickG_t, pickG_f, giSeq_ap, giRange_ap, ofOG_some, ofO_some, gCall_ap, gCallK_ap, afterG_rt, afterG_ex, gMake_ap, gMakeK_ap, makeG_rt, makeG_ex, gLm_ap, isLst_ap, gLmK_ap, pNm_ap, pNmK_some, fnF_ap, finF_rt, finF_nx, finF_ex, sSubL_ap, subK_ap, faQ_ap, faQK_some, startP, stS, stA, okA, takeH, evalA, exP, Ag.sl, putH, toB, toI, lenV_ap, lenN_l, lenN_t, addV_i, subV_i, mulV_i, fdivV_i, modV_i, ltV_i, leV_i, gtV_i, geV_i, negV_i, eqV_i, eqV_s, eqV_b, neV_i, neV_s, neV_b, addV_s, addV_l, addV_t, ixV_t, ixV_tk, ixV_l, ixV_s, at_0, at_1, at_2, at_3, ix_0, ix_1, ix_2, decide_true, decide_false, mkTup, mkLst, mkTupG, mkLstG, fAppend, fExtend, fInsert, fClear, fPop, fRev, mkLc, D.free, D.up, D.st, D.view, D.fz, D.mapF, D.mapFL, viewF, fzF, D.noOwn, D.noBor, D.kept, D.allF, D.allFL, ownF, borF, keepF, List.map_cons, List.map_nil, List.length_cons, List.length_nil, List.length_map, List.replicate, List.cons_append, List.nil_append, List.append_nil, List.getElem?_cons_zero, List.getElem?_cons_succ, List.getElem?_nil, List.set_cons_zero, List.set_cons_succ, List.set_nil, Option.bind_some, Option.bind_none, Option.map_some, Option.map_none, id, Nat.zero_add, Nat.reduceAdd, Nat.reduceSub, Nat.sub_self, Nat.sub_zero, if_true, if_false, Bool.false_eq_true, Bool.and_true, Bool.true_and, Bool.not_true, Bool.not_false, and_true, true_and, and_self, reduceCtorEq, ne_eq, not_false_eq_true, sz_le, sz_lt, Nat.reduceLeDiff, ints_all, strs_all, callQ_ap, callK_some, giveQ_nil, giveQ_r, giveQ_k, resQ_rt, resQ_ex, q_str, q_int, q_bl, q_non, q_tup, q_lst, q_dic, q_dit, q_obj, qChain_ap, lenN_s, listV_t, listV_l, listV_d, tupleV_l, lenN_d, ixV_d, slV_l, all_true, ints_mp, strs_mp, fldD_ap, sFldF_ap, rndK_nx, rndK_ct, rndK_bk, rndK_rt, rndK_ex, forV_cons, forV_nil, sForMv_ap, mvK_some, pFld_ap, pFldK_o, pIx_ap, pIxK_l, pIxK_t, pIxK_d, gLmP_ap, gLmPK_ok, gLmPK_ex, mqNil_ap, mqCons_ap, Function.comp_apply, Function.comp_id, Function.id_comp, neV_strs, ct, n1, itemsD, e, cv, n2, allV_bls]
  exact ⟨_, rfl⟩

end LW


namespace LW
open PySem PySem.Spec PyProof.Rows L2 VL
theorem all_mk {P : Program} {w : World} {K : PySem.W.Frag} {h : Heap} {mg : Str → Option Value} {fa : Addr} (X : K.In h) (G : h.Ns mainGlobals mg) (hfa : mg "law" = some (.ref fa))
    {c_NoWeb : Addr}
    {c_NoHand : Addr}
    {c_Web : Addr}
    {g_is_whole : Addr} {oc_is_whole kV_is_whole dc_is_whole pm_is_whole cd_is_whole ct_is_whole : Value} {od_is_whole an_is_whole : Option Addr} {sl_is_whole : Array (Option Value)}
    {g_is_within : Addr} {oc_is_within kV_is_within dc_is_within pm_is_within cd_is_within ct_is_within : Value} {od_is_within an_is_within : Option Addr} {sl_is_within : Array (Option Value)}
    {g_is_name : Addr} {oc_is_name kV_is_name dc_is_name pm_is_name cd_is_name ct_is_name : Value} {od_is_name an_is_name : Option Addr} {sl_is_name : Array (Option Value)}
    {g_is_hand_row : Addr} {oc_is_hand_row kV_is_hand_row dc_is_hand_row pm_is_hand_row cd_is_hand_row ct_is_hand_row : Value} {od_is_hand_row an_is_hand_row : Option Addr} {sl_is_hand_row : Array (Option Value)}
    {g_is_pair : Addr} {oc_is_pair kV_is_pair dc_is_pair pm_is_pair cd_is_pair ct_is_pair : Value} {od_is_pair an_is_pair : Option Addr} {sl_is_pair : Array (Option Value)}
    {g_sorted_pair : Addr} {oc_sorted_pair kV_sorted_pair dc_sorted_pair pm_sorted_pair cd_sorted_pair ct_sorted_pair : Value} {od_sorted_pair an_sorted_pair : Option Addr} {sl_sorted_pair : Array (Option Value)}
    {g_sure : Addr} {oc_sure kV_sure dc_sure pm_sure cd_sure ct_sure : Value} {od_sure an_sure : Option Addr} {sl_sure : Array (Option Value)}
    {g_strengths_of : Addr} {oc_strengths_of kV_strengths_of dc_strengths_of pm_strengths_of cd_strengths_of ct_strengths_of : Value} {od_strengths_of an_strengths_of : Option Addr} {sl_strengths_of : Array (Option Value)}
    {g_pairs_of : Addr} {oc_pairs_of kV_pairs_of dc_pairs_of pm_pairs_of cd_pairs_of ct_pairs_of : Value} {od_pairs_of an_pairs_of : Option Addr} {sl_pairs_of : Array (Option Value)}
    {g_Web___init__ : Addr} {oc_Web___init__ kV_Web___init__ dc_Web___init__ pm_Web___init__ cd_Web___init__ ct_Web___init__ : Value} {od_Web___init__ an_Web___init__ : Option Addr} {sl_Web___init__ : Array (Option Value)}
    {g_Web_hands : Addr} {oc_Web_hands kV_Web_hands dc_Web_hands pm_Web_hands cd_Web_hands ct_Web_hands : Value} {od_Web_hands an_Web_hands : Option Addr} {sl_Web_hands : Array (Option Value)}
    {g_Web_check_hand : Addr} {oc_Web_check_hand kV_Web_check_hand dc_Web_check_hand pm_Web_check_hand cd_Web_check_hand ct_Web_check_hand : Value} {od_Web_check_hand an_Web_check_hand : Option Addr} {sl_Web_check_hand : Array (Option Value)}
    {g_Web_strength : Addr} {oc_Web_strength kV_Web_strength dc_Web_strength pm_Web_strength cd_Web_strength ct_Web_strength : Value} {od_Web_strength an_Web_strength : Option Addr} {sl_Web_strength : Array (Option Value)}
    {g_Web_neighbours : Addr} {oc_Web_neighbours kV_Web_neighbours dc_Web_neighbours pm_Web_neighbours cd_Web_neighbours ct_Web_neighbours : Value} {od_Web_neighbours an_Web_neighbours : Option Addr} {sl_Web_neighbours : Array (Option Value)}
    {g_Web_are_tied : Addr} {oc_Web_are_tied kV_Web_are_tied dc_Web_are_tied pm_Web_are_tied cd_Web_are_tied ct_Web_are_tied : Value} {od_Web_are_tied an_Web_are_tied : Option Addr} {sl_Web_are_tied : Array (Option Value)}
    {g_Web_ties : Addr} {oc_Web_ties kV_Web_ties dc_Web_ties pm_Web_ties cd_Web_ties ct_Web_ties : Value} {od_Web_ties an_Web_ties : Option Addr} {sl_Web_ties : Array (Option Value)}
    {g_Web_most_neighbours : Addr} {oc_Web_most_neighbours kV_Web_most_neighbours dc_Web_most_neighbours pm_Web_most_neighbours cd_Web_most_neighbours ct_Web_most_neighbours : Value} {od_Web_most_neighbours an_Web_most_neighbours : Option Addr} {sl_Web_most_neighbours : Array (Option Value)}
    {g__law_digit : Addr} {oc__law_digit kV__law_digit dc__law_digit pm__law_digit cd__law_digit ct__law_digit : Value} {od__law_digit an__law_digit : Option Addr} {sl__law_digit : Array (Option Value)}
    {g__law_name : Addr} {oc__law_name kV__law_name dc__law_name pm__law_name cd__law_name ct__law_name : Value} {od__law_name an__law_name : Option Addr} {sl__law_name : Array (Option Value)}
    {g__law_hands : Addr} {oc__law_hands kV__law_hands dc__law_hands pm__law_hands cd__law_hands ct__law_hands : Value} {od__law_hands an__law_hands : Option Addr} {sl__law_hands : Array (Option Value)}
    {g__law_ties : Addr} {oc__law_ties kV__law_ties dc__law_ties pm__law_ties cd__law_ties ct__law_ties : Value} {od__law_ties an__law_ties : Option Addr} {sl__law_ties : Array (Option Value)}
    {g__law_of : Addr} {oc__law_of kV__law_of dc__law_of pm__law_of cd__law_of ct__law_of : Value} {od__law_of an__law_of : Option Addr} {sl__law_of : Array (Option Value)}
    {g__law_right : Addr} {oc__law_right kV__law_right dc__law_right pm__law_right cd__law_right ct__law_right : Value} {od__law_right an__law_right : Option Addr} {sl__law_right : Array (Option Value)}
    {g_law : Addr} {oc_law kV_law dc_law pm_law cd_law ct_law : Value} {od_law an_law : Option Addr} {sl_law : Array (Option Value)}
    {t_LETTERS : Tok}
    {t_MOST_HANDS : Tok}
    {t_MOST_STRENGTH : Tok}
    (a_is_whole : PySem.W.nsIn K mainGlobals "is_whole" = some (some (.ref g_is_whole)))
    (l_is_whole : K.lookup g_is_whole = some ⟨oc_is_whole, od_is_whole, .func (PySem.W.fnOf "is_whole" "is_whole" (defArgs (top 7)) (defBody (top 7)) (defScope (top 7)) .none kV_is_whole dc_is_whole pm_is_whole an_is_whole cd_is_whole ct_is_whole), sl_is_whole⟩)
    (q_is_whole : PySem.W.codeIn K cd_is_whole "is_whole" = true)
    (k_is_whole : PySem.W.keepIn K (.ref g_is_whole) = true)
    (a_is_within : PySem.W.nsIn K mainGlobals "is_within" = some (some (.ref g_is_within)))
    (l_is_within : K.lookup g_is_within = some ⟨oc_is_within, od_is_within, .func (PySem.W.fnOf "is_within" "is_within" (defArgs (top 8)) (defBody (top 8)) (defScope (top 8)) .none kV_is_within dc_is_within pm_is_within an_is_within cd_is_within ct_is_within), sl_is_within⟩)
    (q_is_within : PySem.W.codeIn K cd_is_within "is_within" = true)
    (k_is_within : PySem.W.keepIn K (.ref g_is_within) = true)
    (a_is_name : PySem.W.nsIn K mainGlobals "is_name" = some (some (.ref g_is_name)))
    (l_is_name : K.lookup g_is_name = some ⟨oc_is_name, od_is_name, .func (PySem.W.fnOf "is_name" "is_name" (defArgs (top 9)) (defBody (top 9)) (defScope (top 9)) .none kV_is_name dc_is_name pm_is_name an_is_name cd_is_name ct_is_name), sl_is_name⟩)
    (q_is_name : PySem.W.codeIn K cd_is_name "is_name" = true)
    (k_is_name : PySem.W.keepIn K (.ref g_is_name) = true)
    (a_is_hand_row : PySem.W.nsIn K mainGlobals "is_hand_row" = some (some (.ref g_is_hand_row)))
    (l_is_hand_row : K.lookup g_is_hand_row = some ⟨oc_is_hand_row, od_is_hand_row, .func (PySem.W.fnOf "is_hand_row" "is_hand_row" (defArgs (top 13)) (defBody (top 13)) (defScope (top 13)) .none kV_is_hand_row dc_is_hand_row pm_is_hand_row an_is_hand_row cd_is_hand_row ct_is_hand_row), sl_is_hand_row⟩)
    (q_is_hand_row : PySem.W.codeIn K cd_is_hand_row "is_hand_row" = true)
    (k_is_hand_row : PySem.W.keepIn K (.ref g_is_hand_row) = true)
    (a_is_pair : PySem.W.nsIn K mainGlobals "is_pair" = some (some (.ref g_is_pair)))
    (l_is_pair : K.lookup g_is_pair = some ⟨oc_is_pair, od_is_pair, .func (PySem.W.fnOf "is_pair" "is_pair" (defArgs (top 14)) (defBody (top 14)) (defScope (top 14)) .none kV_is_pair dc_is_pair pm_is_pair an_is_pair cd_is_pair ct_is_pair), sl_is_pair⟩)
    (q_is_pair : PySem.W.codeIn K cd_is_pair "is_pair" = true)
    (k_is_pair : PySem.W.keepIn K (.ref g_is_pair) = true)
    (a_sorted_pair : PySem.W.nsIn K mainGlobals "sorted_pair" = some (some (.ref g_sorted_pair)))
    (l_sorted_pair : K.lookup g_sorted_pair = some ⟨oc_sorted_pair, od_sorted_pair, .func (PySem.W.fnOf "sorted_pair" "sorted_pair" (defArgs (top 15)) (defBody (top 15)) (defScope (top 15)) .none kV_sorted_pair dc_sorted_pair pm_sorted_pair an_sorted_pair cd_sorted_pair ct_sorted_pair), sl_sorted_pair⟩)
    (q_sorted_pair : PySem.W.codeIn K cd_sorted_pair "sorted_pair" = true)
    (k_sorted_pair : PySem.W.keepIn K (.ref g_sorted_pair) = true)
    (a_sure : PySem.W.nsIn K mainGlobals "sure" = some (some (.ref g_sure)))
    (l_sure : K.lookup g_sure = some ⟨oc_sure, od_sure, .func (PySem.W.fnOf "sure" "sure" (defArgs (top 16)) (defBody (top 16)) (defScope (top 16)) .none kV_sure dc_sure pm_sure an_sure cd_sure ct_sure), sl_sure⟩)
    (q_sure : PySem.W.codeIn K cd_sure "sure" = true)
    (k_sure : PySem.W.keepIn K (.ref g_sure) = true)
    (a_strengths_of : PySem.W.nsIn K mainGlobals "strengths_of" = some (some (.ref g_strengths_of)))
    (l_strengths_of : K.lookup g_strengths_of = some ⟨oc_strengths_of, od_strengths_of, .func (PySem.W.fnOf "strengths_of" "strengths_of" (defArgs (top 17)) (defBody (top 17)) (defScope (top 17)) .none kV_strengths_of dc_strengths_of pm_strengths_of an_strengths_of cd_strengths_of ct_strengths_of), sl_strengths_of⟩)
    (q_strengths_of : PySem.W.codeIn K cd_strengths_of "strengths_of" = true)
    (k_strengths_of : PySem.W.keepIn K (.ref g_strengths_of) = true)
    (a_pairs_of : PySem.W.nsIn K mainGlobals "pairs_of" = some (some (.ref g_pairs_of)))
    (l_pairs_of : K.lookup g_pairs_of = some ⟨oc_pairs_of, od_pairs_of, .func (PySem.W.fnOf "pairs_of" "pairs_of" (defArgs (top 18)) (defBody (top 18)) (defScope (top 18)) .none kV_pairs_of dc_pairs_of pm_pairs_of an_pairs_of cd_pairs_of ct_pairs_of), sl_pairs_of⟩)
    (q_pairs_of : PySem.W.codeIn K cd_pairs_of "pairs_of" = true)
    (k_pairs_of : PySem.W.keepIn K (.ref g_pairs_of) = true)
    (a_Web___init__ : PySem.W.findIn K (.ref c_Web) "__init__" = some (some (.ref g_Web___init__)))
    (i_Web___init__ : PySem.W.isFn K (.ref g_Web___init__) = true)
    (l_Web___init__ : K.lookup g_Web___init__ = some ⟨oc_Web___init__, od_Web___init__, .func (PySem.W.fnOf "__init__" "Web.__init__" (defArgs (inClass (top 19) 0)) (defBody (inClass (top 19) 0)) (defScope (inClass (top 19) 0)) .none kV_Web___init__ dc_Web___init__ pm_Web___init__ an_Web___init__ cd_Web___init__ ct_Web___init__), sl_Web___init__⟩)
    (q_Web___init__ : PySem.W.codeIn K cd_Web___init__ "Web.__init__" = true)
    (k_Web___init__ : PySem.W.keepIn K (.ref g_Web___init__) = true)
    (a_Web_hands : PySem.W.findIn K (.ref c_Web) "hands" = some (some (.ref g_Web_hands)))
    (i_Web_hands : PySem.W.isFn K (.ref g_Web_hands) = true)
    (l_Web_hands : K.lookup g_Web_hands = some ⟨oc_Web_hands, od_Web_hands, .func (PySem.W.fnOf "hands" "Web.hands" (defArgs (inClass (top 19) 1)) (defBody (inClass (top 19) 1)) (defScope (inClass (top 19) 1)) .none kV_Web_hands dc_Web_hands pm_Web_hands an_Web_hands cd_Web_hands ct_Web_hands), sl_Web_hands⟩)
    (q_Web_hands : PySem.W.codeIn K cd_Web_hands "Web.hands" = true)
    (k_Web_hands : PySem.W.keepIn K (.ref g_Web_hands) = true)
    (a_Web_check_hand : PySem.W.findIn K (.ref c_Web) "check_hand" = some (some (.ref g_Web_check_hand)))
    (i_Web_check_hand : PySem.W.isFn K (.ref g_Web_check_hand) = true)
    (l_Web_check_hand : K.lookup g_Web_check_hand = some ⟨oc_Web_check_hand, od_Web_check_hand, .func (PySem.W.fnOf "check_hand" "Web.check_hand" (defArgs (inClass (top 19) 2)) (defBody (inClass (top 19) 2)) (defScope (inClass (top 19) 2)) .none kV_Web_check_hand dc_Web_check_hand pm_Web_check_hand an_Web_check_hand cd_Web_check_hand ct_Web_check_hand), sl_Web_check_hand⟩)
    (q_Web_check_hand : PySem.W.codeIn K cd_Web_check_hand "Web.check_hand" = true)
    (k_Web_check_hand : PySem.W.keepIn K (.ref g_Web_check_hand) = true)
    (a_Web_strength : PySem.W.findIn K (.ref c_Web) "strength" = some (some (.ref g_Web_strength)))
    (i_Web_strength : PySem.W.isFn K (.ref g_Web_strength) = true)
    (l_Web_strength : K.lookup g_Web_strength = some ⟨oc_Web_strength, od_Web_strength, .func (PySem.W.fnOf "strength" "Web.strength" (defArgs (inClass (top 19) 3)) (defBody (inClass (top 19) 3)) (defScope (inClass (top 19) 3)) .none kV_Web_strength dc_Web_strength pm_Web_strength an_Web_strength cd_Web_strength ct_Web_strength), sl_Web_strength⟩)
    (q_Web_strength : PySem.W.codeIn K cd_Web_strength "Web.strength" = true)
    (k_Web_strength : PySem.W.keepIn K (.ref g_Web_strength) = true)
    (a_Web_neighbours : PySem.W.findIn K (.ref c_Web) "neighbours" = some (some (.ref g_Web_neighbours)))
    (i_Web_neighbours : PySem.W.isFn K (.ref g_Web_neighbours) = true)
    (l_Web_neighbours : K.lookup g_Web_neighbours = some ⟨oc_Web_neighbours, od_Web_neighbours, .func (PySem.W.fnOf "neighbours" "Web.neighbours" (defArgs (inClass (top 19) 4)) (defBody (inClass (top 19) 4)) (defScope (inClass (top 19) 4)) .none kV_Web_neighbours dc_Web_neighbours pm_Web_neighbours an_Web_neighbours cd_Web_neighbours ct_Web_neighbours), sl_Web_neighbours⟩)
    (q_Web_neighbours : PySem.W.codeIn K cd_Web_neighbours "Web.neighbours" = true)
    (k_Web_neighbours : PySem.W.keepIn K (.ref g_Web_neighbours) = true)
    (a_Web_are_tied : PySem.W.findIn K (.ref c_Web) "are_tied" = some (some (.ref g_Web_are_tied)))
    (i_Web_are_tied : PySem.W.isFn K (.ref g_Web_are_tied) = true)
    (l_Web_are_tied : K.lookup g_Web_are_tied = some ⟨oc_Web_are_tied, od_Web_are_tied, .func (PySem.W.fnOf "are_tied" "Web.are_tied" (defArgs (inClass (top 19) 5)) (defBody (inClass (top 19) 5)) (defScope (inClass (top 19) 5)) .none kV_Web_are_tied dc_Web_are_tied pm_Web_are_tied an_Web_are_tied cd_Web_are_tied ct_Web_are_tied), sl_Web_are_tied⟩)
    (q_Web_are_tied : PySem.W.codeIn K cd_Web_are_tied "Web.are_tied" = true)
    (k_Web_are_tied : PySem.W.keepIn K (.ref g_Web_are_tied) = true)
    (a_Web_ties : PySem.W.findIn K (.ref c_Web) "ties" = some (some (.ref g_Web_ties)))
    (i_Web_ties : PySem.W.isFn K (.ref g_Web_ties) = true)
    (l_Web_ties : K.lookup g_Web_ties = some ⟨oc_Web_ties, od_Web_ties, .func (PySem.W.fnOf "ties" "Web.ties" (defArgs (inClass (top 19) 6)) (defBody (inClass (top 19) 6)) (defScope (inClass (top 19) 6)) .none kV_Web_ties dc_Web_ties pm_Web_ties an_Web_ties cd_Web_ties ct_Web_ties), sl_Web_ties⟩)
    (q_Web_ties : PySem.W.codeIn K cd_Web_ties "Web.ties" = true)
    (k_Web_ties : PySem.W.keepIn K (.ref g_Web_ties) = true)
    (a_Web_most_neighbours : PySem.W.findIn K (.ref c_Web) "most_neighbours" = some (some (.ref g_Web_most_neighbours)))
    (i_Web_most_neighbours : PySem.W.isFn K (.ref g_Web_most_neighbours) = true)
    (l_Web_most_neighbours : K.lookup g_Web_most_neighbours = some ⟨oc_Web_most_neighbours, od_Web_most_neighbours, .func (PySem.W.fnOf "most_neighbours" "Web.most_neighbours" (defArgs (inClass (top 19) 7)) (defBody (inClass (top 19) 7)) (defScope (inClass (top 19) 7)) .none kV_Web_most_neighbours dc_Web_most_neighbours pm_Web_most_neighbours an_Web_most_neighbours cd_Web_most_neighbours ct_Web_most_neighbours), sl_Web_most_neighbours⟩)
    (q_Web_most_neighbours : PySem.W.codeIn K cd_Web_most_neighbours "Web.most_neighbours" = true)
    (k_Web_most_neighbours : PySem.W.keepIn K (.ref g_Web_most_neighbours) = true)
    (a__law_digit : PySem.W.nsIn K mainGlobals "_law_digit" = some (some (.ref g__law_digit)))
    (l__law_digit : K.lookup g__law_digit = some ⟨oc__law_digit, od__law_digit, .func (PySem.W.fnOf "_law_digit" "_law_digit" (defArgs (top 22)) (defBody (top 22)) (defScope (top 22)) .none kV__law_digit dc__law_digit pm__law_digit an__law_digit cd__law_digit ct__law_digit), sl__law_digit⟩)
    (q__law_digit : PySem.W.codeIn K cd__law_digit "_law_digit" = true)
    (k__law_digit : PySem.W.keepIn K (.ref g__law_digit) = true)
    (a__law_name : PySem.W.nsIn K mainGlobals "_law_name" = some (some (.ref g__law_name)))
    (l__law_name : K.lookup g__law_name = some ⟨oc__law_name, od__law_name, .func (PySem.W.fnOf "_law_name" "_law_name" (defArgs (top 23)) (defBody (top 23)) (defScope (top 23)) .none kV__law_name dc__law_name pm__law_name an__law_name cd__law_name ct__law_name), sl__law_name⟩)
    (q__law_name : PySem.W.codeIn K cd__law_name "_law_name" = true)
    (k__law_name : PySem.W.keepIn K (.ref g__law_name) = true)
    (a__law_hands : PySem.W.nsIn K mainGlobals "_law_hands" = some (some (.ref g__law_hands)))
    (l__law_hands : K.lookup g__law_hands = some ⟨oc__law_hands, od__law_hands, .func (PySem.W.fnOf "_law_hands" "_law_hands" (defArgs (top 24)) (defBody (top 24)) (defScope (top 24)) .none kV__law_hands dc__law_hands pm__law_hands an__law_hands cd__law_hands ct__law_hands), sl__law_hands⟩)
    (q__law_hands : PySem.W.codeIn K cd__law_hands "_law_hands" = true)
    (k__law_hands : PySem.W.keepIn K (.ref g__law_hands) = true)
    (a__law_ties : PySem.W.nsIn K mainGlobals "_law_ties" = some (some (.ref g__law_ties)))
    (l__law_ties : K.lookup g__law_ties = some ⟨oc__law_ties, od__law_ties, .func (PySem.W.fnOf "_law_ties" "_law_ties" (defArgs (top 25)) (defBody (top 25)) (defScope (top 25)) .none kV__law_ties dc__law_ties pm__law_ties an__law_ties cd__law_ties ct__law_ties), sl__law_ties⟩)
    (q__law_ties : PySem.W.codeIn K cd__law_ties "_law_ties" = true)
    (k__law_ties : PySem.W.keepIn K (.ref g__law_ties) = true)
    (a__law_of : PySem.W.nsIn K mainGlobals "_law_of" = some (some (.ref g__law_of)))
    (l__law_of : K.lookup g__law_of = some ⟨oc__law_of, od__law_of, .func (PySem.W.fnOf "_law_of" "_law_of" (defArgs (top 26)) (defBody (top 26)) (defScope (top 26)) .none kV__law_of dc__law_of pm__law_of an__law_of cd__law_of ct__law_of), sl__law_of⟩)
    (q__law_of : PySem.W.codeIn K cd__law_of "_law_of" = true)
    (k__law_of : PySem.W.keepIn K (.ref g__law_of) = true)
    (a__law_right : PySem.W.nsIn K mainGlobals "_law_right" = some (some (.ref g__law_right)))
    (l__law_right : K.lookup g__law_right = some ⟨oc__law_right, od__law_right, .func (PySem.W.fnOf "_law_right" "_law_right" (defArgs (top 27)) (defBody (top 27)) (defScope (top 27)) .none kV__law_right dc__law_right pm__law_right an__law_right cd__law_right ct__law_right), sl__law_right⟩)
    (q__law_right : PySem.W.codeIn K cd__law_right "_law_right" = true)
    (k__law_right : PySem.W.keepIn K (.ref g__law_right) = true)
    (a_law : PySem.W.nsIn K mainGlobals "law" = some (some (.ref g_law)))
    (l_law : K.lookup g_law = some ⟨oc_law, od_law, .func (PySem.W.fnOf "law" "law" (defArgs (top 28)) (defBody (top 28)) (defScope (top 28)) .none kV_law dc_law pm_law an_law cd_law ct_law), sl_law⟩)
    (q_law : PySem.W.codeIn K cd_law "law" = true)
    (k_law : PySem.W.keepIn K (.ref g_law) = true)
    (b_all : PySem.W.nsIn K mainGlobals "all" = some (none))
    (b_bool : PySem.W.nsIn K mainGlobals "bool" = some (none))
    (b_dict : PySem.W.nsIn K mainGlobals "dict" = some (none))
    (b_int : PySem.W.nsIn K mainGlobals "int" = some (none))
    (b_isinstance : PySem.W.nsIn K mainGlobals "isinstance" = some (none))
    (b_len : PySem.W.nsIn K mainGlobals "len" = some (none))
    (b_list : PySem.W.nsIn K mainGlobals "list" = some (none))
    (b_max : PySem.W.nsIn K mainGlobals "max" = some (none))
    (b_range : PySem.W.nsIn K mainGlobals "range" = some (none))
    (b_set : PySem.W.nsIn K mainGlobals "set" = some (none))
    (b_sorted : PySem.W.nsIn K mainGlobals "sorted" = some (none))
    (b_str : PySem.W.nsIn K mainGlobals "str" = some (none))
    (b_tuple : PySem.W.nsIn K mainGlobals "tuple" = some (none))
    (a_LETTERS : PySem.W.nsIn K mainGlobals "LETTERS" = some (some (.str "abcdefghijklmnopqrstuvwxyz" t_LETTERS)))
    (a_MOST_HANDS : PySem.W.nsIn K mainGlobals "MOST_HANDS" = some (some (.int 8 t_MOST_HANDS)))
    (a_MOST_STRENGTH : PySem.W.nsIn K mainGlobals "MOST_STRENGTH" = some (some (.int 1000 t_MOST_STRENGTH)))
    (a_NoHand : PySem.W.nsIn K mainGlobals "NoHand" = some (some (.ref c_NoHand)))
    (xx_NoHand : PySem.W.excIn K c_NoHand [.type "ValueError", .type "Exception", .type "BaseException", .type "object"] "ValueError.__new__" = true)
    (xk_NoHand : PySem.W.keepIn K (.ref c_NoHand) = true)
    (xb_NoHand : PySem.W.subIn K (.ref c_NoHand) (.type "BaseException") = some true)
    (xt_NoHand : PySem.W.typeIn K (.ref c_NoHand) = some (.type "type"))
    (a_NoWeb : PySem.W.nsIn K mainGlobals "NoWeb" = some (some (.ref c_NoWeb)))
    (xx_NoWeb : PySem.W.excIn K c_NoWeb [.type "ValueError", .type "Exception", .type "BaseException", .type "object"] "ValueError.__new__" = true)
    (xk_NoWeb : PySem.W.keepIn K (.ref c_NoWeb) = true)
    (xb_NoWeb : PySem.W.subIn K (.ref c_NoWeb) (.type "BaseException") = some true)
    (xt_NoWeb : PySem.W.typeIn K (.ref c_NoWeb) = some (.type "type"))
    (a_Web : PySem.W.nsIn K mainGlobals "Web" = some (some (.ref c_Web)))
    (kpg_Web : PySem.W.plainGet K c_Web Str.empty = true)
    (khd_Web : PySem.W.hasDictIn K c_Web = true)
    (kpo_Web : PySem.W.plainOver K c_Web = true)
    (ksa_Web : PySem.W.findIn K (.ref c_Web) "__setattr__" = some (some (.builtin "object.__setattr__")))
    (n_Web_pairs : PySem.W.findIn K (.ref c_Web) "pairs" = some none)
    (n_Web_strong : PySem.W.findIn K (.ref c_Web) "strong" = some none)
    (mk_Web : PySem.W.makesIn K c_Web = true)
    (kp_Web : PySem.W.keepIn K (.ref c_Web) = true)
    : ∃ fd : FuncData, (∀ (s : Shared) (v : Value), BindsTo s fd ⟨[v], []⟩ [("_law_script", v)]) ∧ ∀ base : Heap, K.In base → base.Ns mainGlobals mg → FnOk P w K mg base (L2.CX P w) 7 fa fd ["_law_script"] (spLawV K) := by
  have T : Txt K mg { c_EvenError := 0, c_NoWeb := c_NoWeb, c_NoHand := c_NoHand, c_Web := c_Web } := {
    f_is_whole := topFn_mk X G a_is_whole l_is_whole q_is_whole k_is_whole (fun _ _ _ _ _ _ us hl => match us, hl with | [_], _ => rfl),
    f_is_within := topFn_mk X G a_is_within l_is_within q_is_within k_is_within (fun _ _ _ _ _ _ us hl => match us, hl with | [_, _, _], _ => rfl),
    f_is_name := topFn_mk X G a_is_name l_is_name q_is_name k_is_name (fun _ _ _ _ _ _ us hl => match us, hl with | [_], _ => rfl),
    f_is_hand_row := topFn_mk X G a_is_hand_row l_is_hand_row q_is_hand_row k_is_hand_row (fun _ _ _ _ _ _ us hl => match us, hl with | [_], _ => rfl),
    f_is_pair := topFn_mk X G a_is_pair l_is_pair q_is_pair k_is_pair (fun _ _ _ _ _ _ us hl => match us, hl with | [_], _ => rfl),
    f_sorted_pair := topFn_mk X G a_sorted_pair l_sorted_pair q_sorted_pair k_sorted_pair (fun _ _ _ _ _ _ us hl => match us, hl with | [_], _ => rfl),
    f_sure := topFn_mk X G a_sure l_sure q_sure k_sure (fun _ _ _ _ _ _ us hl => match us, hl with | [_], _ => rfl),
    f_strengths_of := topFn_mk X G a_strengths_of l_strengths_of q_strengths_of k_strengths_of (fun _ _ _ _ _ _ us hl => match us, hl with | [_], _ => rfl),
    f_pairs_of := topFn_mk X G a_pairs_of l_pairs_of q_pairs_of k_pairs_of (fun _ _ _ _ _ _ us hl => match us, hl with | [_, _], _ => rfl),
    f_Web___init__ := topMt_mk a_Web___init__ i_Web___init__ l_Web___init__ q_Web___init__ k_Web___init__ (fun _ _ _ _ _ _ us hl => match us, hl with | [_, _, _], _ => rfl),
    f_Web_hands := topMt_mk a_Web_hands i_Web_hands l_Web_hands q_Web_hands k_Web_hands (fun _ _ _ _ _ _ us hl => match us, hl with | [_], _ => rfl),
    f_Web_check_hand := topMt_mk a_Web_check_hand i_Web_check_hand l_Web_check_hand q_Web_check_hand k_Web_check_hand (fun _ _ _ _ _ _ us hl => match us, hl with | [_, _], _ => rfl),
    f_Web_strength := topMt_mk a_Web_strength i_Web_strength l_Web_strength q_Web_strength k_Web_strength (fun _ _ _ _ _ _ us hl => match us, hl with | [_, _], _ => rfl),
    f_Web_neighbours := topMt_mk a_Web_neighbours i_Web_neighbours l_Web_neighbours q_Web_neighbours k_Web_neighbours (fun _ _ _ _ _ _ us hl => match us, hl with | [_, _], _ => rfl),
    f_Web_are_tied := topMt_mk a_Web_are_tied i_Web_are_tied l_Web_are_tied q_Web_are_tied k_Web_are_tied (fun _ _ _ _ _ _ us hl => match us, hl with | [_, _, _], _ => rfl),
    f_Web_ties := topMt_mk a_Web_ties i_Web_ties l_Web_ties q_Web_ties k_Web_ties (fun _ _ _ _ _ _ us hl => match us, hl with | [_], _ => rfl),
    f_Web_most_neighbours := topMt_mk a_Web_most_neighbours i_Web_most_neighbours l_Web_most_neighbours q_Web_most_neighbours k_Web_most_neighbours (fun _ _ _ _ _ _ us hl => match us, hl with | [_], _ => rfl),
    f__law_digit := topFn_mk X G a__law_digit l__law_digit q__law_digit k__law_digit (fun _ _ _ _ _ _ us hl => match us, hl with | [_, _], _ => rfl),
    f__law_name := topFn_mk X G a__law_name l__law_name q__law_name k__law_name (fun _ _ _ _ _ _ us hl => match us, hl with | [_], _ => rfl),
    f__law_hands := topFn_mk X G a__law_hands l__law_hands q__law_hands k__law_hands (fun _ _ _ _ _ _ us hl => match us, hl with | [_, _], _ => rfl),
    f__law_ties := topFn_mk X G a__law_ties l__law_ties q__law_ties k__law_ties (fun _ _ _ _ _ _ us hl => match us, hl with | [_, _], _ => rfl),
    f__law_of := topFn_mk X G a__law_of l__law_of q__law_of k__law_of (fun _ _ _ _ _ _ us hl => match us, hl with | [_, _], _ => rfl),
    f__law_right := topFn_mk X G a__law_right l__law_right q__law_right k__law_right (fun _ _ _ _ _ _ us hl => match us, hl with | [_, _, _], _ => rfl),
    f_law := topFn_mk X G a_law l_law q_law k_law (fun _ _ _ _ _ _ us hl => match us, hl with | [_], _ => rfl),
    b_all := PySem.W.mg_none_of X G b_all,
    b_bool := PySem.W.mg_none_of X G b_bool,
    b_dict := PySem.W.mg_none_of X G b_dict,
    b_int := PySem.W.mg_none_of X G b_int,
    b_isinstance := PySem.W.mg_none_of X G b_isinstance,
    b_len := PySem.W.mg_none_of X G b_len,
    b_list := PySem.W.mg_none_of X G b_list,
    b_max := PySem.W.mg_none_of X G b_max,
    b_range := PySem.W.mg_none_of X G b_range,
    b_set := PySem.W.mg_none_of X G b_set,
    b_sorted := PySem.W.mg_none_of X G b_sorted,
    b_str := PySem.W.mg_none_of X G b_str,
    b_tuple := PySem.W.mg_none_of X G b_tuple,
    k_LETTERS := const_str X G a_LETTERS,
    k_MOST_HANDS := const_int X G a_MOST_HANDS,
    k_MOST_STRENGTH := const_int X G a_MOST_STRENGTH,
    x_NoHand := ⟨PySem.W.mg_of X G a_NoHand, xx_NoHand, xk_NoHand, xb_NoHand, xt_NoHand⟩,
    x_NoWeb := ⟨PySem.W.mg_of X G a_NoWeb, xx_NoWeb, xk_NoWeb, xb_NoWeb, xt_NoWeb⟩,
    c_Web := ⟨kpg_Web, khd_Web, kpo_Web, ksa_Web⟩,
    n_Web_pairs := n_Web_pairs,
    n_Web_strong := n_Web_strong,
    mk_Web := mk_Web,
    kp_Web := kp_Web,
    m_Web := PySem.W.mg_of X G a_Web }
  cases hfa.symm.trans (PySem.W.mg_of X G a_law)
  exact ⟨_, fun s v => .of_eq rfl, fun base _ _ => (ok_law T (fun_mk (st := top 28) l_law q_law k_law)).imp fun _ _ _ _ h => law_sp law_holds h⟩
end LW
open PySem PySem.W PyProof.Rows in
set_option maxRecDepth 100000 in
set_option maxHeartbeats 0 in
theorem PySem.Challenge.cw_evenpieces_k01_webs_told_holds : PySem.Challenge.rw_evenpieces_k01_webs_told.Holds := by
  w_on; o_law; k_head; (case hw => w_witness2)
  k_fill
  refine VL.walk (l := PySem.Challenge.rw_evenpieces_k01_webs_told) (k := 7) rfl rfl ⟨rfl, by decide, by decide⟩ (fun w h Y => PySem.W.kIn_of Y) ?F
  case F =>
    intro w mg fa h KX G hmg
    refine' LW.all_mk KX G hmg ?a_is_whole ?l_is_whole ?q_is_whole ?k_is_whole ?a_is_within ?l_is_within ?q_is_within ?k_is_within ?a_is_name ?l_is_name ?q_is_name ?k_is_name ?a_is_hand_row ?l_is_hand_row ?q_is_hand_row ?k_is_hand_row ?a_is_pair ?l_is_pair ?q_is_pair ?k_is_pair ?a_sorted_pair ?l_sorted_pair ?q_sorted_pair ?k_sorted_pair ?a_sure ?l_sure ?q_sure ?k_sure ?a_strengths_of ?l_strengths_of ?q_strengths_of ?k_strengths_of ?a_pairs_of ?l_pairs_of ?q_pairs_of ?k_pairs_of ?a_Web___init__ ?i_Web___init__ ?l_Web___init__ ?q_Web___init__ ?k_Web___init__ ?a_Web_hands ?i_Web_hands ?l_Web_hands ?q_Web_hands ?k_Web_hands ?a_Web_check_hand ?i_Web_check_hand ?l_Web_check_hand ?q_Web_check_hand ?k_Web_check_hand ?a_Web_strength ?i_Web_strength ?l_Web_strength ?q_Web_strength ?k_Web_strength ?a_Web_neighbours ?i_Web_neighbours ?l_Web_neighbours ?q_Web_neighbours ?k_Web_neighbours ?a_Web_are_tied ?i_Web_are_tied ?l_Web_are_tied ?q_Web_are_tied ?k_Web_are_tied ?a_Web_ties ?i_Web_ties ?l_Web_ties ?q_Web_ties ?k_Web_ties ?a_Web_most_neighbours ?i_Web_most_neighbours ?l_Web_most_neighbours ?q_Web_most_neighbours ?k_Web_most_neighbours ?a__law_digit ?l__law_digit ?q__law_digit ?k__law_digit ?a__law_name ?l__law_name ?q__law_name ?k__law_name ?a__law_hands ?l__law_hands ?q__law_hands ?k__law_hands ?a__law_ties ?l__law_ties ?q__law_ties ?k__law_ties ?a__law_of ?l__law_of ?q__law_of ?k__law_of ?a__law_right ?l__law_right ?q__law_right ?k__law_right ?a_law ?l_law ?q_law ?k_law ?b_all ?b_bool ?b_dict ?b_int ?b_isinstance ?b_len ?b_list ?b_max ?b_range ?b_set ?b_sorted ?b_str ?b_tuple ?a_LETTERS ?a_MOST_HANDS ?a_MOST_STRENGTH ?a_NoHand ?xx_NoHand ?xk_NoHand ?xb_NoHand ?xt_NoHand ?a_NoWeb ?xx_NoWeb ?xk_NoWeb ?xb_NoWeb ?xt_NoWeb ?a_Web ?kpg_Web ?khd_Web ?kpo_Web ?ksa_Web ?n_Web_pairs ?n_Web_strong ?mk_Web ?kp_Web
    (case a_is_whole => k_is)
    (case a_is_within => k_is)
    (case a_is_name => k_is)
    (case a_is_hand_row => k_is)
    (case a_is_pair => k_is)
    (case a_sorted_pair => k_is)
    (case a_sure => k_is)
    (case a_strengths_of => k_is)
    (case a_pairs_of => k_is)
    (case a__law_digit => k_is)
    (case a__law_name => k_is)
    (case a__law_hands => k_is)
    (case a__law_ties => k_is)
    (case a__law_of => k_is)
    (case a__law_right => k_is)
    (case a_law => k_is)
    (case b_all => k_is)
    (case b_bool => k_is)
    (case b_dict => k_is)
    (case b_int => k_is)
    (case b_isinstance => k_is)
    (case b_len => k_is)
    (case b_list => k_is)
    (case b_max => k_is)
    (case b_range => k_is)
    (case b_set => k_is)
    (case b_sorted => k_is)
    (case b_str => k_is)
    (case b_tuple => k_is)
    (case a_LETTERS => k_is)
    (case a_MOST_HANDS => k_is)
    (case a_MOST_STRENGTH => k_is)
    (case a_NoHand => k_is)
    (case a_NoWeb => k_is)
    (case a_Web => k_is)
    (case l_is_whole => k_is)
    (case q_is_whole => k_is)
    (case k_is_whole => k_is)
    (case l_is_within => k_is)
    (case q_is_within => k_is)
    (case k_is_within => k_is)
    (case l_is_name => k_is)
    (case q_is_name => k_is)
    (case k_is_name => k_is)
    (case l_is_hand_row => k_is)
    (case q_is_hand_row => k_is)
    (case k_is_hand_row => k_is)
    (case l_is_pair => k_is)
    (case q_is_pair => k_is)
    (case k_is_pair => k_is)
    (case l_sorted_pair => k_is)
    (case q_sorted_pair => k_is)
    (case k_sorted_pair => k_is)
    (case l_sure => k_is)
    (case q_sure => k_is)
    (case k_sure => k_is)
    (case l_strengths_of => k_is)
    (case q_strengths_of => k_is)
    (case k_strengths_of => k_is)
    (case l_pairs_of => k_is)
    (case q_pairs_of => k_is)
    (case k_pairs_of => k_is)
    (case a_Web___init__ => k_is)
    (case i_Web___init__ => k_is)
    (case l_Web___init__ => k_is)
    (case q_Web___init__ => k_is)
    (case k_Web___init__ => k_is)
    (case a_Web_hands => k_is)
    (case i_Web_hands => k_is)
    (case l_Web_hands => k_is)
    (case q_Web_hands => k_is)
    (case k_Web_hands => k_is)
    (case a_Web_check_hand => k_is)
    (case i_Web_check_hand => k_is)
    (case l_Web_check_hand => k_is)
    (case q_Web_check_hand => k_is)
    (case k_Web_check_hand => k_is)
    (case a_Web_strength => k_is)
    (case i_Web_strength => k_is)
    (case l_Web_strength => k_is)
    (case q_Web_strength => k_is)
    (case k_Web_strength => k_is)
    (case a_Web_neighbours => k_is)
    (case i_Web_neighbours => k_is)
    (case l_Web_neighbours => k_is)
    (case q_Web_neighbours => k_is)
    (case k_Web_neighbours => k_is)
    (case a_Web_are_tied => k_is)
    (case i_Web_are_tied => k_is)
    (case l_Web_are_tied => k_is)
    (case q_Web_are_tied => k_is)
    (case k_Web_are_tied => k_is)
    (case a_Web_ties => k_is)
    (case i_Web_ties => k_is)
    (case l_Web_ties => k_is)
    (case q_Web_ties => k_is)
    (case k_Web_ties => k_is)
    (case a_Web_most_neighbours => k_is)
    (case i_Web_most_neighbours => k_is)
    (case l_Web_most_neighbours => k_is)
    (case q_Web_most_neighbours => k_is)
    (case k_Web_most_neighbours => k_is)
    (case l__law_digit => k_is)
    (case q__law_digit => k_is)
    (case k__law_digit => k_is)
    (case l__law_name => k_is)
    (case q__law_name => k_is)
    (case k__law_name => k_is)
    (case l__law_hands => k_is)
    (case q__law_hands => k_is)
    (case k__law_hands => k_is)
    (case l__law_ties => k_is)
    (case q__law_ties => k_is)
    (case k__law_ties => k_is)
    (case l__law_of => k_is)
    (case q__law_of => k_is)
    (case k__law_of => k_is)
    (case l__law_right => k_is)
    (case q__law_right => k_is)
    (case k__law_right => k_is)
    (case l_law => k_is)
    (case q_law => k_is)
    (case k_law => k_is)
    (case xx_NoHand => k_exc)
    (case xk_NoHand => k_is)
    (case xb_NoHand => k_is)
    (case xt_NoHand => k_is)
    (case xx_NoWeb => k_exc)
    (case xk_NoWeb => k_is)
    (case xb_NoWeb => k_is)
    (case xt_NoWeb => k_is)
    (case kpg_Web => k_is)
    (case khd_Web => k_is)
    (case kpo_Web => k_is)
    (case ksa_Web => k_is)
    (case n_Web_pairs => k_is)
    (case n_Web_strong => k_is)
    (case mk_Web => k_is)
    (case kp_Web => k_is)
#print axioms PySem.Challenge.cw_evenpieces_k01_webs_told_holds
