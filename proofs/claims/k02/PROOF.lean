import PyProof.Rows.All
import Wide.All
import OpenK.AllK
import Wide.FinOn
import PyProof.EqAt
import PyProof.EqKinds
import PyProof.TupleCall
import KE.KLam
import HandS.Base
import HandS.Call
import HandS.List
import HandS.Comp
import HandS.Dict
import HandS.Iter
import HandS.Text
import HandS.Exc
import HandS.Codes
import HandS.TryOnly
import HandS.Lambda
import HandS.Wide
import HandS.TupMul
import HandS.TupAny
import HandS.Deep
import HandS.TupLe
import HandS.Nested
import KE.KExcSuper
import HandS.ExcSuper
import HandS.ExcField
import PyProof.Rows.StrOr
import PyProof.StrHeap
import PyProof.ReprReads
import HandS.IsInst
import KE.KExcIs
import HandS.SortRule
import HandS.SortInts
import HandS.Conv
import HandS.RaiseMore
import HandS.Style
import KE.KRevSl
import HandS.SetFor
import HandS.Star
import PyProof.NoPylong
import PyProof.StrLawsRepr
import PyProof.FitsInt
import PyProof.P3Eq
import PyProof.ReprLen
import PyProof.Ascii
import HandS.EndTab
import HandS.HeadHook2
import HandS.Head0
import HandS.Head1
import HandS.Head2
import HandS.EndBits
import PySem.Challenge.RW_eachdiamondone_k02_whole_three_more_numb
import KE.KStateDown
import Lean
set_option Elab.async false
set_option linter.all false
set_option maxRecDepth 100000
set_option maxHeartbeats 0
set_option exponentiation.threshold 2000
namespace DL
open PySem PySem.Spec PyProof.Rows L2

inductive D where
  | non | bl (b : Bool) | int (i : Int) | str (x : Str) | tup (ds : List D) | ref (a : Addr) | ty (n : String) | cls (n : Str) | exc (n : Str) (d : D)

/-- what stands at an address that is told -/
inductive MO where
  | lst (ds : List D)
  | ro (ds : List D)
  | dk (kvs : List (Key × D))

/-- the store: what is told of addresses; the lambdas that may be called (which one, what its names held) -/
structure DS where
  mem : Addr → Option MO
  lam : Addr → Option (Nat × List D)

structure LamD where
  ps : List Str
  caps : List Str
  args : Arguments
  body : Expr
  scope : Scope

/-- what is fixed for a program: own classes, the lambdas, the tables of code -/
structure GS where
  cl : Str → Addr
  sub : Str → Str → Bool
  lams : List LamD
  tabs : List (Addr × Str)

/-- what a write never reaches -/
def isTbl : HO → Bool
  | .tbl _ => true
  | _ => false
def Imm : HO → Bool
  | .lst _ | .dK _ | .dT _ | .set _ _ | .ins _ _ _ | .own _ | .tbl _ => false
  | _ => true

mutual
def Dat (K : PySem.W.Frag) (G : GS) (H : Hp) : D → V → Prop
  | .non, v => v = .non
  | .bl b, v => v = .bl b
  | .int i, v => v = .int i
  | .str x, v => v = .str x
  | .ty n, v => v = .ty n
  | .ref a, v => v = .ref a
  | .cls n, v => v = .ref (G.cl n)
  | .tup ds, v => ∃ a vs, v = .ref a ∧ SqT K H a vs ∧ Dats K G H ds vs
  | .exc n d, v => ∃ a oe u fv dd w, v = .ref a ∧ H a = some (.frz oe u) ∧ oe.cls = .ref (G.cl n) ∧ oe.dict = some dd ∧ oe.data = .fields fv ∧ H dd = some (.xd [("value", w)]) ∧ Dat K G H d w
def Dats (K : PySem.W.Frag) (G : GS) (H : Hp) : List D → List V → Prop
  | [], vs => vs = []
  | d :: ds, vs => ∃ v r, vs = v :: r ∧ Dat K G H d v ∧ Dats K G H ds r
end

/-- unwritten things stay -/
def Kept (H H' : Hp) : Prop := ∀ a o, Imm o = true → H a = some o → H' a = some o
theorem Kept.refl (H : Hp) : Kept H H := fun _ _ _ h => h
theorem Kept.trans {H H1 H2 : Hp} (a : Kept H H1) (b : Kept H1 H2) : Kept H H2 := fun c o i h => b c o i (a c o i h)
theorem Kept.sqT {K : PySem.W.Frag} {H H' : Hp} (k : Kept H H') {a : Addr} {xs : List V} (h : SqT K H a xs) : SqT K H' a xs := by
  rcases h with (h | ⟨o, h⟩) | h
  · exact .inl (.inl (k _ _ rfl h))
  · exact .inl (.inr ⟨o, k _ _ rfl h⟩)
  · exact .inr h
mutual
theorem Dat.mono {K : PySem.W.Frag} {G : GS} {H H' : Hp} (k : Kept H H') : ∀ (d : D) (v : V), Dat K G H d v → Dat K G H' d v
  | .non, _, h => h
  | .bl _, _, h => h
  | .int _, _, h => h
  | .str _, _, h => h
  | .ty _, _, h => h
  | .ref _, _, h => h
  | .cls _, _, h => h
  | .tup ds, v, h => by
    unfold Dat at h ⊢
    obtain ⟨a, vs, e, hs, hd⟩ := h
    exact ⟨a, vs, e, k.sqT hs, Dats.mono k ds vs hd⟩
  | .exc n d, v, h => by
    unfold Dat at h ⊢
    obtain ⟨a, oe, u, fv, dd, w, e, h1, h2, h3, h4, h5, h6⟩ := h
    exact ⟨a, oe, u, fv, dd, w, e, k _ _ rfl h1, h2, h3, h4, k _ _ rfl h5, Dat.mono k d w h6⟩
theorem Dats.mono {K : PySem.W.Frag} {G : GS} {H H' : Hp} (k : Kept H H') : ∀ (ds : List D) (vs : List V), Dats K G H ds vs → Dats K G H' ds vs
  | [], _, h => h
  | d :: ds, vs, h => by
    unfold Dats at h ⊢
    obtain ⟨v, r, e, h1, h2⟩ := h
    exact ⟨v, r, e, Dat.mono k d v h1, Dats.mono k ds r h2⟩
end

theorem Dats.length {K : PySem.W.Frag} {G : GS} {H : Hp} : ∀ {ds : List D} {vs : List V}, Dats K G H ds vs → ds.length = vs.length
  | [], vs, h => by
    have e : vs = [] := h
    subst e; rfl
  | d :: ds, vs, h => by
    unfold Dats at h
    obtain ⟨v, r, e, _, h2⟩ := h
    subst e
    simp only [List.length_cons, Dats.length h2]
theorem Dats.get {K : PySem.W.Frag} {G : GS} {H : Hp} : ∀ {ds : List D} {vs : List V} {i : Nat} {d : D}, Dats K G H ds vs → ds[i]? = some d → ∃ v, vs[i]? = some v ∧ Dat K G H d v
  | [], vs, i, d, _, e => by simp at e
  | x :: ds, vs, 0, d, h, e => by
    unfold Dats at h
    obtain ⟨v, r, rfl, h1, _⟩ := h
    simp at e; subst e
    exact ⟨v, rfl, h1⟩
  | x :: ds, vs, i + 1, d, h, e => by
    unfold Dats at h
    obtain ⟨v, r, rfl, _, h2⟩ := h
    obtain ⟨v', e', h'⟩ := Dats.get (i := i) (d := d) h2 (by simpa using e)
    exact ⟨v', by simpa using e', h'⟩
theorem Dats.append {K : PySem.W.Frag} {G : GS} {H : Hp} : ∀ {ds es : List D} {vs ws : List V}, Dats K G H ds vs → Dats K G H es ws → Dats K G H (ds ++ es) (vs ++ ws)
  | [], es, vs, ws, h, g => by
    have e : vs = [] := h
    subst e; exact g
  | d :: ds, es, vs, ws, h, g => by
    unfold Dats at h
    obtain ⟨v, r, rfl, h1, h2⟩ := h
    show Dats K G H (d :: (ds ++ es)) (v :: (r ++ ws))
    unfold Dats
    exact ⟨v, _, rfl, h1, Dats.append h2 g⟩
theorem Dats.take {K : PySem.W.Frag} {G : GS} {H : Hp} : ∀ (n : Nat) {ds : List D} {vs : List V}, Dats K G H ds vs → Dats K G H (ds.take n) (vs.take n)
  | 0, _, _, _ => by simp [Dats]
  | n + 1, [], vs, h => by
    have e : vs = [] := h
    subst e; simp [Dats]
  | n + 1, d :: ds, vs, h => by
    unfold Dats at h
    obtain ⟨v, r, rfl, h1, h2⟩ := h
    show Dats K G H (d :: ds.take n) (v :: r.take n)
    unfold Dats
    exact ⟨v, _, rfl, h1, Dats.take n h2⟩
theorem Dats.drop {K : PySem.W.Frag} {G : GS} {H : Hp} : ∀ (n : Nat) {ds : List D} {vs : List V}, Dats K G H ds vs → Dats K G H (ds.drop n) (vs.drop n)
  | 0, _, _, h => h
  | n + 1, [], vs, h => by
    have e : vs = [] := h
    subst e; simp [Dats]
  | n + 1, d :: ds, vs, h => by
    unfold Dats at h
    obtain ⟨v, r, rfl, h1, h2⟩ := h
    exact Dats.drop n h2
theorem Dats.reverse {K : PySem.W.Frag} {G : GS} {H : Hp} : ∀ {ds : List D} {vs : List V}, Dats K G H ds vs → Dats K G H ds.reverse vs.reverse
  | [], vs, h => by
    have e : vs = [] := h
    subst e; simp [Dats]
  | d :: ds, vs, h => by
    unfold Dats at h
    obtain ⟨v, r, rfl, h1, h2⟩ := h
    rw [List.reverse_cons, List.reverse_cons]
    refine Dats.append (Dats.reverse h2) ?_
    unfold Dats
    exact ⟨v, [], rfl, h1, rfl⟩
theorem Dats.set {K : PySem.W.Frag} {G : GS} {H : Hp} {d : D} {v : V} (hd : Dat K G H d v) : ∀ (i : Nat) {ds : List D} {vs : List V}, Dats K G H ds vs → Dats K G H (ds.set i d) (vs.set i v)
  | _, [], vs, h => by
    have e : vs = [] := h
    subst e; simp [Dats]
  | 0, x :: ds, vs, h => by
    unfold Dats at h
    obtain ⟨w, r, rfl, h1, h2⟩ := h
    show Dats K G H (d :: ds) (v :: r)
    unfold Dats
    exact ⟨v, r, rfl, hd, h2⟩
  | i + 1, x :: ds, vs, h => by
    unfold Dats at h
    obtain ⟨w, r, rfl, h1, h2⟩ := h
    show Dats K G H (x :: ds.set i d) (w :: r.set i v)
    unfold Dats
    exact ⟨w, _, rfl, h1, Dats.set hd i h2⟩
theorem Dats.one {K : PySem.W.Frag} {G : GS} {H : Hp} {d : D} {v : V} (h : Dat K G H d v) : Dats K G H [d] [v] := by
  unfold Dats
  exact ⟨v, [], rfl, h, rfl⟩
theorem Dats.cons {K : PySem.W.Frag} {G : GS} {H : Hp} {d : D} {v : V} {ds : List D} {vs : List V} (h : Dat K G H d v) (g : Dats K G H ds vs) : Dats K G H (d :: ds) (v :: vs) := by
  unfold Dats
  exact ⟨v, vs, rfl, h, g⟩
theorem Dats.cases1 {K : PySem.W.Frag} {G : GS} {H : Hp} {d : D} {ds : List D} {vs : List V} (h : Dats K G H (d :: ds) vs) : ∃ v r, vs = v :: r ∧ Dat K G H d v ∧ Dats K G H ds r := by
  unfold Dats at h
  exact h
theorem Dats.inv1 {K : PySem.W.Frag} {G : GS} {H : Hp} {ds : List D} {v : V} {vs : List V} (h : Dats K G H ds (v :: vs)) : ∃ d r, ds = d :: r ∧ Dat K G H d v ∧ Dats K G H r vs := by
  cases ds with
  | nil => cases (show v :: vs = [] from h)
  | cons d r =>
    obtain ⟨v', r', e, h1, h2⟩ := h.cases1
    cases e
    exact ⟨d, r, rfl, h1, h2⟩

/-- what is told of an address -/
def MOk (K : PySem.W.Frag) (G : GS) (H : Hp) (a : Addr) : MO → Prop
  | .lst ds => ∃ vs, H a = some (.lst vs) ∧ Dats K G H ds vs
  | .ro ds => ∃ vs, (∃ o, H a = some (.frz o (.lst vs))) ∧ Dats K G H ds vs
  | .dk kvs => ∃ kws : List (Key × V), H a = some (.dK kws) ∧ kws.map (·.1) = kvs.map (·.1) ∧ Dats K G H (kvs.map (·.2)) (kws.map (·.2))

/-- from one moment to a later one: what is not told, and what is never written, stays; told things are old ones or new -/
structure Step (H : Hp) (S : DS) (H' : Hp) (S' : DS) : Prop where
  kept : ∀ a o, H a = some o → (S.mem a = none ∨ Imm o = true) → isTbl o = false → H' a = some o
  dom : ∀ a, S'.mem a ≠ none → S.mem a ≠ none ∨ H a = none
  tbl : ∀ a ps, H a = some (.tbl ps) → ∃ ps', H' a = some (.tbl ps')
theorem Imm_tbl {o : HO} (h : Imm o = true) : isTbl o = false := by
  cases o <;> first | rfl | cases h
theorem isTbl_iff {o : HO} (h : isTbl o = true) : ∃ ps, o = .tbl ps := by
  cases o <;> first | exact ⟨_, rfl⟩ | cases h
theorem Step.k {H H' : Hp} {S S' : DS} (s : Step H S H' S') : Kept H H' := fun a o i e => s.kept a o e (.inr i) (Imm_tbl i)
theorem Step.refl (H : Hp) (S : DS) : Step H S H S := ⟨fun _ _ h _ _ => h, fun _ h => .inl h, fun _ ps h => ⟨ps, h⟩⟩
theorem Step.trans {H H1 H2 : Hp} {S S1 S2 : DS} (x : Step H S H1 S1) (y : Step H1 S1 H2 S2) : Step H S H2 S2 where
  kept := fun a o e c t => by
    have e1 := x.kept a o e c t
    refine y.kept a o e1 ?_ t
    rcases c with c | c
    · cases q : S1.mem a with
      | none => exact .inl rfl
      | some m =>
        rcases x.dom a (by rw [q]; simp) with z | z
        · exact absurd c z
        · rw [e] at z; cases z
    · exact .inr c
  dom := fun a h => by
    rcases y.dom a h with z | z
    · exact x.dom a z
    · cases q : H a with
      | none => exact .inr rfl
      | some o =>
        cases qs : S.mem a with
        | some m => exact .inl (by simp)
        | none =>
          cases t : isTbl o with
          | false => rw [x.kept a o q (.inl qs) t] at z; cases z
          | true =>
            obtain ⟨ps, rfl⟩ := isTbl_iff t
            obtain ⟨ps', e⟩ := x.tbl a ps q
            rw [e] at z; cases z
  tbl := fun a ps h => by
    obtain ⟨p1, h1⟩ := x.tbl a ps h
    exact y.tbl a p1 h1

/-- a cell holds d: one of this frame's own, or one that was there at the entry -/
def CellAt (G : GS) (X : Cx) (σ : L2.St) (H : Hp) (x : Str) (c : Addr) (d : D) : Prop :=
  (∃ (i : Nat) (v : V), X.env.cells.lookup x = some c ∧ (X.env.kindOf x = some .cell ∨ X.env.kindOf x = some .free) ∧ X.N[i]? = some x ∧ σ[i]? = some (some v) ∧ Dat X.K G H d v) ∨
  (∃ u v, X.s_0.heap.IsCell c (some u) ∧ X.H_0 c = none ∧ c ∉ X.ex ∧ RelV v u ∧ Dat X.K G H d v)
/-- a lambda's cells: each of one name, a captured one -/
def CsOk (cs : List (Str × Addr)) (caps : List Str) : Prop := (∀ x y c, cs.lookup x = some c → cs.lookup y = some c → x = y) ∧ ∀ y c, cs.lookup y = some c → y ∈ caps
/-- the lambda j stands at f, its names hold sn -/
def LamAt (G : GS) (X : Cx) (σ : L2.St) (H : Hp) (f : Addr) (j : Nat) (sn : List D) : Prop :=
  ∃ (ld : LamD) (q : Str) (cs : List (Str × Addr)) (pm ctv : Value) (c' : Addr) (u : HO), G.lams[j]? = some ld ∧
    H f = some (.frz (PySem.W.kla_obj "<lambda>" q ld.args ld.body ld.scope cs pm c' ctv) u) ∧ H c' = some (LamX.CodeO c' q) ∧ (sn.length = ld.caps.length ∧ CsOk cs ld.caps) ∧
    ∀ (i : Nat) (y : Str), ld.caps[i]? = some y → ∃ c d, cs.lookup y = some c ∧ sn[i]? = some d ∧ CellAt G X σ H y c d
abbrev Rho := List (Option D)
/-- the frame and the store are so -/
structure Rep (G : GS) (X : Cx) (S0 : DS) (σ : L2.St) (H : Hp) (ρ : Rho) (S : DS) : Prop where
  len : σ.length = ρ.length
  env : ∀ (i : Nat) (d : D), ρ[i]? = some (some d) → ∃ v, σ[i]? = some (some v) ∧ Dat X.K G H d v
  mem : ∀ a o, S.mem a = some o → MOk X.K G H a o
  lam : ∀ f j sn, S.lam f = some (j, sn) → LamAt G X σ H f j sn
  tab : LamX.Tabs G.tabs H
  st : Step X.H_0 S0 H S
abbrev QE := D → DS → Prop
abbrev EX := Str → D → DS → Prop
/-- an expression has come to a value -/
def DP (G : GS) (X : Cx) (S0 : DS) (pins : List (Addr × Obj)) (σ : L2.St) (ρ : Rho) (H : Hp) (S : DS) (Q : QE) (u : Value) (s' : Shared) : Prop :=
  ∃ v H' d S', Inv X pins σ H' s' ∧ RelV v u ∧ Dat X.K G H' d v ∧ Rep G X S0 σ H' ρ S' ∧ Step H S H' S' ∧ Q d S'
abbrev DT := Rho → DS → QE → Prop
structure DE (G : GS) (X : Cx) (S0 : DS) (e : Expr) (t : DT) : Prop where
  run : ∀ (pins : List (Addr × Obj)) (s : Shared) (σ : L2.St) (H : Hp) (ρ : Rho) (S : DS) (Q : QE), Inv X pins σ H s → Rep G X S0 σ H ρ S → t ρ S Q →
    wpAny (model X.prog X.w) X.A (eval e X.env) (DP G X S0 pins σ ρ H S Q) X.xe s

theorem CellAt.mono {G : GS} {X : Cx} {σ : L2.St} {H H' : Hp} (k : Kept H H') {x : Str} {c : Addr} {d : D} (h : CellAt G X σ H x c d) : CellAt G X σ H' x c d := by
  rcases h with ⟨i, v, h1, h2, h3, h4, h5⟩ | ⟨u, v, h1, h2, h3, h4, h5⟩
  · exact .inl ⟨i, v, h1, h2, h3, h4, Dat.mono k _ _ h5⟩
  · exact .inr ⟨u, v, h1, h2, h3, h4, Dat.mono k _ _ h5⟩
theorem LamAt.mono {G : GS} {X : Cx} {σ : L2.St} {H H' : Hp} (k : Kept H H') {f : Addr} {j : Nat} {sn : List D} (h : LamAt G X σ H f j sn) : LamAt G X σ H' f j sn := by
  obtain ⟨ld, q, cs, pm, ctv, c', u, h1, h2, h3, h4, h5⟩ := h
  refine ⟨ld, q, cs, pm, ctv, c', u, h1, k _ _ rfl h2, k _ _ rfl h3, h4, fun i y e => ?_⟩
  obtain ⟨c, d, e1, e2, e3⟩ := h5 i y e
  exact ⟨c, d, e1, e2, e3.mono k⟩
/-- the heap has grown by things of which the store says nothing -/
theorem Rep.grow {G : GS} {X : Cx} {S0 : DS} {σ : L2.St} {H H' : Hp} {ρ : Rho} {S : DS} (r : Rep G X S0 σ H ρ S) (k : ∀ a o, H a = some o → H' a = some o) : Rep G X S0 σ H' ρ S ∧ Step H S H' S := by
  have ks : Step H S H' S := ⟨fun a o e _ _ => k a o e, fun _ h => .inl h, fun a ps h => ⟨ps, k a _ h⟩⟩
  refine ⟨⟨r.len, fun i d e => ?_, fun a o e => ?_, fun f j sn e => (r.lam f j sn e).mono ks.k, r.tab.ext k, r.st.trans ks⟩, ks⟩
  · obtain ⟨v, e1, e2⟩ := r.env i d e
    exact ⟨v, e1, Dat.mono ks.k _ _ e2⟩
  · have q := r.mem a o e
    cases o with
    | lst ds =>
      obtain ⟨vs, e1, e2⟩ := q
      exact ⟨vs, k _ _ e1, Dats.mono ks.k _ _ e2⟩
    | ro ds =>
      obtain ⟨vs, ⟨ob, e1⟩, e2⟩ := q
      exact ⟨vs, ⟨ob, k _ _ e1⟩, Dats.mono ks.k _ _ e2⟩
    | dk kvs =>
      obtain ⟨kws, e1, e2, e3⟩ := q
      exact ⟨kws, k _ _ e1, e2, Dats.mono ks.k _ _ e3⟩
theorem upd_grow {H : Hp} {p : Addr} {o : HO} (h : H p = none) : ∀ a u, H a = some u → upd H p o a = some u := fun a u e => by
  rw [upd_ne (ne_of_none e h)]; exact e
end DL

namespace DL
open PySem PySem.Spec PyProof.Rows L2
theorem tuple_mulS (l : Addr) (items : Array Value) (n : Nat) (dd : Option Addr) (sl : Array (Option Value)) (x : Int) (u : Tok) (c0 : (decide (x < -(2 ^ 63)) || decide (x ≥ 2 ^ 63)) = false) (c1 : (items.isEmpty || x == 1) = true) :
    Meets (Builtin.«tuple.__mul__» ⟨[.ref l, .int x u], []⟩) (fun _ R s => s.heap.get? l = some { cls := .type "tuple", dict := dd, data := .seq items n, slots := sl } ∧ R (.ok (.ret (Value.ref l))) s) :=
  .of_wp fun prog w A R s h => by
    obtain ⟨hp, g, d, tk, os⟩ := s
    obtain ⟨hl, h⟩ := h
    have f1 := AutoSeq1.idx_int
    wp_walk using wpAny_loadPart' hl
    repeat (first
      | (refine wpAny_ite_false (decide_eq_false (by rw [c0]; exact Bool.false_ne_true)) ?_; wp_walk using wpAny_loadPart' hl)
      | (refine wpAny_ite_true (decide_eq_true (by rw [c1])) ?_; wp_walk using wpAny_loadPart' hl)
      | (refine wpAny_ite_true (by decide) ?_; wp_walk using wpAny_loadPart' hl))
    exact ⟨_, rfl, h⟩
theorem tuple_mul0 (l : Addr) (items : Array Value) (n : Nat) (dd : Option Addr) (sl : Array (Option Value)) (x : Int) (u : Tok) (c0 : (decide (x < -(2 ^ 63)) || decide (x ≥ 2 ^ 63)) = false) (c1 : (items.isEmpty || x == 1) = false) (c2 : (decide (x ≤ 0) || items.isEmpty) = true) :
    Meets (Builtin.«tuple.__mul__» ⟨[.ref l, .int x u], []⟩) (fun _ R s => s.heap.get? l = some { cls := .type "tuple", dict := dd, data := .seq items n, slots := sl } ∧
      R (.ok (.ret (Value.ref s.heap.objs.size))) { s with heap := s.heap.push { cls := Value.type "tuple", data := Data.seq #[] }, toks := s.toks }) :=
  .of_wp fun prog w A R s h => by
    obtain ⟨hp, g, d, tk, os⟩ := s
    obtain ⟨hl, h⟩ := h
    have f1 := AutoSeq1.idx_int
    wp_walk using wpAny_loadPart' hl
    repeat (first
      | (refine wpAny_ite_false (decide_eq_false (by rw [c0]; exact Bool.false_ne_true)) ?_; wp_walk using wpAny_loadPart' hl)
      | (refine wpAny_ite_false (decide_eq_false (by rw [c1]; exact Bool.false_ne_true)) ?_; wp_walk using wpAny_loadPart' hl)
      | (refine wpAny_ite_true (decide_eq_true (by rw [c2])) ?_; wp_walk using wpAny_loadPart' hl)
      | (refine wpAny_ite_false (by decide) ?_; wp_walk using wpAny_loadPart' hl))
    exact ⟨_, rfl, h⟩
def rRepS (K : PySem.W.Frag) : R2 := fun x y H Q => ∃ l k xs, x = .ref l ∧ y = .int k ∧ SqT K H l xs ∧ -1000 ≤ k ∧ k ≤ 1000 ∧ ((xs = [] ∨ k = 1) → Q (.ref l) H) ∧ (xs ≠ [] → k ≤ 0 → ∀ p, H p = none → Q (.ref p) (upd H p (.tup [])))  ∧ (xs = [] ∨ k ≤ 1)
section
variable {X : Cx}
theorem op_repS : OpR X (binaryOp .Mult) (rRepS X.K) := by
  intro pins s σ H x y v u Q I rx ry h
  obtain ⟨l, k, xs, rfl, rfl, hT, h1, h2, q1, q2, h3⟩ := h
  cases rx
  obtain ⟨t, rfl⟩ := ry
  obtain ⟨its, r, ⟨⟨cls, dd, data, sl⟩, ho, hc, n, hd⟩, hs⟩ := I.tuple hT
  simp only at hc hd
  subst hc hd
  have hle : its.length = xs.length := r.length.symm
  have c0 : (decide (k < -(2 ^ 63)) || decide (k ≥ 2 ^ 63)) = false := by
    rw [decide_eq_false (by omega), decide_eq_false (by omega)] <;> rfl
  have hi : its.toArray.isEmpty = decide (xs = []) := by
    cases its with
    | nil =>
      have : xs = [] := List.eq_nil_of_length_eq_zero hle.symm
      rw [this]; rfl
    | cons a b =>
      have : xs ≠ [] := fun e => by rw [e] at hle; cases hle
      rw [decide_eq_false this]; rfl
  by_cases hx : xs = [] ∨ k = 1
  · have c1 : (its.toArray.isEmpty || k == 1) = true := by
      rw [hi]
      rcases hx with e | e
      · rw [decide_eq_true e]; rfl
      · rw [e]; simp
    exact wpAny_binaryOp_repeat_ref (T := "tuple") (U := "int") (by decide) ⟨_, ho, rfl⟩ (fun s' => typeIs_int s' k t) noFill_tuple_mul F.fills_int_mul F.slot_int_rmul repeat_tuple F.slot_int_index.lookup
      (call_meets F.slot_int_rmul (typeIs_int s k t) F.entry_int_rmul (F.args_int_rmul_2 _ _) (int_rmul_tuple k t l its.toArray n dd sl)
        ⟨ho, rfl, ⟨_, ho, rfl⟩, call_meets F.slot_tuple_mul ⟨_, ho, rfl⟩ F.entry_tuple_mul (F.args_tuple_mul_2 _ _) (tuple_mulS l its.toArray n dd sl k t c0 c1) ⟨ho, ⟨.ref l, H, I, rfl, q1 hx⟩⟩⟩)
  · have hx1 : xs ≠ [] := fun e => hx (.inl e)
    have hx2 : k ≠ 1 := fun e => hx (.inr e)
    have hk : k ≤ 0 := by
      rcases h3 with h3 | h3
      · exact absurd h3 hx1
      · omega
    have c1 : (its.toArray.isEmpty || k == 1) = false := by
      rw [hi, decide_eq_false hx1, Bool.false_or]
      exact beq_eq_false_iff_ne.mpr hx2
    have c2 : (decide (k ≤ 0) || its.toArray.isEmpty) = true := by rw [decide_eq_true hk]; rfl
    refine wpAny_binaryOp_repeat_ref (T := "tuple") (U := "int") (by decide) ⟨_, ho, rfl⟩ (fun s' => typeIs_int s' k t) noFill_tuple_mul F.fills_int_mul F.slot_int_rmul repeat_tuple F.slot_int_index.lookup
      (call_meets F.slot_int_rmul (typeIs_int s k t) F.entry_int_rmul (F.args_int_rmul_2 _ _) (int_rmul_tuple k t l its.toArray n dd sl)
        ⟨ho, rfl, ⟨_, ho, rfl⟩, call_meets F.slot_tuple_mul ⟨_, ho, rfl⟩ F.entry_tuple_mul (F.args_tuple_mul_2 _ _) (tuple_mul0 l its.toArray n dd sl k t c0 c1 c2) ⟨ho, ?_⟩⟩)
    refine ⟨.ref s.heap.objs.size, _, I.laid (t' := s.toks) (o := .tup []) (fun b ob q => Heap.get?_push_of_some _ q) (Nat.le_refl _) ?_, rfl, q2 hx1 hk _ (I.hok.fresh (Nat.le_refl _))⟩
    exact ⟨Nat.zero_le _, [], .nil, IsTup.new _ _⟩
end
end DL

namespace DL
open PySem PySem.Spec PyProof.Rows L2

def DS.put (S : DS) (a : Addr) (o : MO) : DS := { S with mem := fun b => if b = a then some o else S.mem b }
theorem DS.put_same {S : DS} {a : Addr} {o : MO} : (S.put a o).mem a = some o := by simp [DS.put]
theorem DS.put_ne {S : DS} {a b : Addr} {o : MO} (h : b ≠ a) : (S.put a o).mem b = S.mem b := by simp [DS.put, h]
theorem DS.put_lam {S : DS} {a : Addr} {o : MO} : (S.put a o).lam = S.lam := rfl

section
variable {G : GS} {X : Cx} {S0 : DS} {pins : List (Addr × Obj)} {σ : L2.St} {H H' : Hp} {ρ : Rho} {S S' : DS} {Q : QE}

theorem tabs_keep (k : Kept H H') (kt : ∀ b ps, H b = some (.tbl ps) → H' b = some (.tbl ps)) (t : LamX.Tabs G.tabs H) : LamX.Tabs G.tabs H' := fun p hp => by
  obtain ⟨ps, h1, h2, h3⟩ := t p hp
  refine ⟨ps, kt _ _ h1, h2, fun pos cv hc => ?_⟩
  obtain ⟨c, e1, e2⟩ := h3 pos cv hc
  exact ⟨c, e1, k _ _ rfl e2⟩
theorem MOk.mono {a : Addr} {o : MO} (k : Kept H H') (ka : ∀ u, H a = some u → H' a = some u) (h : MOk X.K G H a o) : MOk X.K G H' a o := by
  cases o with
  | lst ds => obtain ⟨vs, e1, e2⟩ := h; exact ⟨vs, ka _ e1, Dats.mono k _ _ e2⟩
  | ro ds => obtain ⟨vs, ⟨ob, e1⟩, e2⟩ := h; exact ⟨vs, ⟨ob, ka _ e1⟩, Dats.mono k _ _ e2⟩
  | dk kvs => obtain ⟨kws, e1, e2, e3⟩ := h; exact ⟨kws, ka _ e1, e2, Dats.mono k _ _ e3⟩

/-- a new object that is told -/
theorem Rep.newM {p : Addr} {ho : HO} {m : MO} (r : Rep G X S0 σ H ρ S) (hp : H p = none) (hm : MOk X.K G (upd H p ho) p m) :
    Rep G X S0 σ (upd H p ho) ρ (S.put p m) ∧ Step H S (upd H p ho) (S.put p m) := by
  obtain ⟨r1, s1⟩ := r.grow (upd_grow (o := ho) hp)
  have st : Step H S (upd H p ho) (S.put p m) := ⟨s1.kept, fun a h => by
    by_cases e : a = p
    · subst e; exact .inr hp
    · rw [DS.put_ne e] at h; exact .inl h, s1.tbl⟩
  refine ⟨⟨r1.len, r1.env, fun a o e => ?_, r1.lam, r1.tab, r.st.trans st⟩, st⟩
  by_cases ea : a = p
  · subst ea; rw [DS.put_same] at e; cases e; exact hm
  · rw [DS.put_ne ea] at e; exact r1.mem a o e
/-- a told object is written -/
theorem Rep.setM {a : Addr} {ho ho' : HO} {m : MO} (r : Rep G X S0 σ H ρ S) (ha : H a = some ho) (hi : Imm ho = false) (ht : isTbl ho = false) (hs : S.mem a ≠ none) (hm : MOk X.K G (upd H a ho') a m) :
    Rep G X S0 σ (upd H a ho') ρ (S.put a m) ∧ Step H S (upd H a ho') (S.put a m) := by
  have ne : ∀ b o, H b = some o → Imm o = true → b ≠ a := fun b o e i z => by subst z; rw [ha] at e; cases e; rw [hi] at i; cases i
  have k : Kept H (upd H a ho') := fun b o i e => by rw [upd_ne (ne b o e i)]; exact e
  have kt : ∀ b ps, H b = some (.tbl ps) → upd H a ho' b = some (.tbl ps) := fun b ps e => by
    have z : b ≠ a := fun z => by subst z; rw [ha] at e; cases e; cases ht
    rw [upd_ne z]; exact e
  have st : Step H S (upd H a ho') (S.put a m) := ⟨fun b o e c t => by
      have z : b ≠ a := by
        rcases c with c | c
        · exact fun z => by subst z; exact hs c
        · exact ne b o e c
      rw [upd_ne z]; exact e, fun b h => by
      by_cases e : b = a
      · subst e; exact .inl hs
      · rw [DS.put_ne e] at h; exact .inl h, fun b ps e => ⟨ps, kt b ps e⟩⟩
  refine ⟨⟨r.len, fun i d e => ?_, fun b o e => ?_, fun f j sn e => (r.lam f j sn e).mono k, tabs_keep k kt r.tab, r.st.trans st⟩, st⟩
  · obtain ⟨v, e1, e2⟩ := r.env i d e
    exact ⟨v, e1, Dat.mono k _ _ e2⟩
  · by_cases eb : b = a
    · subst eb; rw [DS.put_same] at e; cases e; exact hm
    · rw [DS.put_ne eb] at e
      exact (r.mem b o e).mono k fun u q => by rw [upd_ne eb]; exact q

/-- what HandS's end is asked to be -/
def HQ (G : GS) (X : Cx) (S0 : DS) (σ : L2.St) (ρ : Rho) (H : Hp) (S : DS) (Q : QE) : VK := fun v H' => ∃ d S', Dat X.K G H' d v ∧ Rep G X S0 σ H' ρ S' ∧ Step H S H' S' ∧ Q d S'
theorem of_EP {u : Value} {s' : Shared} (h : EP X pins σ (HQ G X S0 σ ρ H S Q) u s') : DP G X S0 pins σ ρ H S Q u s' := by
  obtain ⟨v, H', I, r, d, S', h1, h2, h3, h4⟩ := h
  exact ⟨v, H', d, S', I, r, h1, h2, h3, h4⟩
theorem HQ.same {d : D} {v : V} (r : Rep G X S0 σ H ρ S) (h : Dat X.K G H d v) (q : Q d S) : HQ G X S0 σ ρ H S Q v H := ⟨d, S, h, r, Step.refl _ _, q⟩
theorem DP.same {d : D} {v : V} {u : Value} {s : Shared} (I : Inv X pins σ H s) (r : Rep G X S0 σ H ρ S) (e : RelV v u) (h : Dat X.K G H d v) (q : Q d S) : DP G X S0 pins σ ρ H S Q u s :=
  ⟨v, H, d, S, I, e, h, r, Step.refl _ _, q⟩
theorem HQ.tup {ds : List D} {vs : List V} {p : Addr} (r : Rep G X S0 σ H ρ S) (hp : H p = none) (h : Dats X.K G H ds vs) (q : Q (.tup ds) S) : HQ G X S0 σ ρ H S Q (.ref p) (upd H p (.tup vs)) := by
  obtain ⟨r1, s1⟩ := r.grow (upd_grow (o := .tup vs) hp)
  exact ⟨.tup ds, S, by unfold Dat; exact ⟨p, vs, rfl, SqT.of upd_same, Dats.mono s1.k _ _ h⟩, r1, s1, q⟩
theorem HQ.lst {ds : List D} {vs : List V} {p : Addr} (r : Rep G X S0 σ H ρ S) (hp : H p = none) (h : Dats X.K G H ds vs) (q : ∀ p, S.mem p = none → Q (.ref p) (S.put p (.lst ds))) : HQ G X S0 σ ρ H S Q (.ref p) (upd H p (.lst vs)) := by
  have k : Kept H (upd H p (.lst vs)) := fun b o _ e => upd_grow hp b o e
  obtain ⟨r1, s1⟩ := r.newM (m := .lst ds) hp (ho := .lst vs) ⟨vs, upd_same, Dats.mono k _ _ h⟩
  have fr : S.mem p = none := by
    cases e : S.mem p with
    | none => rfl
    | some o =>
      have z := r.mem p o e
      cases o with
      | lst ds => obtain ⟨vs, e1, _⟩ := z; rw [hp] at e1; cases e1
      | ro ds => obtain ⟨vs, ⟨ob, e1⟩, _⟩ := z; rw [hp] at e1; cases e1
      | dk kvs => obtain ⟨kws, e1, _⟩ := z; rw [hp] at e1; cases e1
  exact ⟨.ref p, _, rfl, r1, s1, q p fr⟩
/-- continue behind a step -/
theorem DP.after {S1 : DS} {H1 : Hp} {u : Value} {s' : Shared} (st : Step H S H1 S1) (h : DP G X S0 pins σ ρ H1 S1 Q u s') : DP G X S0 pins σ ρ H S Q u s' := by
  obtain ⟨v, H', d, S', I, r, h1, h2, h3, h4⟩ := h
  exact ⟨v, H', d, S', I, r, h1, h2, st.trans h3, h4⟩
end

abbrev R2D := D → D → DS → QE → Prop
def OpD (G : GS) (X : Cx) (S0 : DS) (f : Value → Value → Sem Value) (r : R2D) : Prop :=
  ∀ (pins : List (Addr × Obj)) (s : Shared) (σ : L2.St) (H : Hp) (ρ : Rho) (S : DS) (x y : V) (v u : Value) (dx dy : D) (Q : QE), Inv X pins σ H s → Rep G X S0 σ H ρ S → RelV x v → RelV y u → Dat X.K G H dx x → Dat X.K G H dy y → r dx dy S Q →
    wpAny (model X.prog X.w) X.A (f v u) (DP G X S0 pins σ ρ H S Q) X.xe s
/-- by a rule of HandS -/
theorem OpD.of {G : GS} {X : Cx} {S0 : DS} {f : Value → Value → Sem Value} {r : R2} {rd : R2D} (h : OpR X f r)
    (c : ∀ (σ : L2.St) (H : Hp) (ρ : Rho) (S : DS) (x y : V) (dx dy : D) (Q : QE), Rep G X S0 σ H ρ S → Dat X.K G H dx x → Dat X.K G H dy y → rd dx dy S Q → r x y H (HQ G X S0 σ ρ H S Q)) : OpD G X S0 f rd :=
  fun pins s σ H ρ S x y v u dx dy Q I R rx ry hx hy q => thn (h pins s σ H x y v u _ I rx ry (c σ H ρ S x y dx dy Q R hx hy q)) fun _ _ => of_EP
theorem OpD.or {G : GS} {X : Cx} {S0 : DS} {f : Value → Value → Sem Value} {r r' : R2D} (h : OpD G X S0 f r) (h' : OpD G X S0 f r') : OpD G X S0 f (fun x y S Q => r x y S Q ∨ r' x y S Q) :=
  fun pins s σ H ρ S x y v u dx dy Q I R rx ry hx hy q => q.elim (h pins s σ H ρ S x y v u dx dy Q I R rx ry hx hy) (h' pins s σ H ρ S x y v u dx dy Q I R rx ry hx hy)
theorem OpD.imp {G : GS} {X : Cx} {S0 : DS} {f : Value → Value → Sem Value} {r r' : R2D} (h : OpD G X S0 f r) (c : ∀ x y S Q, r' x y S Q → r x y S Q) : OpD G X S0 f r' :=
  fun pins s σ H ρ S x y v u dx dy Q I R rx ry hx hy q => h pins s σ H ρ S x y v u dx dy Q I R rx ry hx hy (c _ _ _ _ q)

/-! ### two-place operations -/
def mulOk (i j : Int) : Prop := i.natAbs.log2 + j.natAbs.log2 < 1000000
def divOk (i j : Int) : Prop := j ≠ 0 ∧ Builtin.divisionGoesByPylong i j = false
def powOk (i j : Int) : Prop := 0 ≤ j ∧ (Builtin.Int.intBits i : Int) * j ≤ 2 ^ 27
/-- a list told at a -/
def lstAt (S : DS) (a : Addr) : Option (List D) := match S.mem a with
  | some (.lst ds) => some ds
  | some (.ro ds) => some ds
  | _ => none
def binS (op : Operator) (x y : D) (S : DS) (Q : QE) : Prop := match op, x, y with
  | .Add, .int i, .int j => Q (.int (i + j)) S
  | .Sub, .int i, .int j => Q (.int (i - j)) S
  | .Mult, .int i, .int j => mulOk i j ∧ Q (.int (i * j)) S
  | .FloorDiv, .int i, .int j => divOk i j ∧ Q (.int (i.fdiv j)) S
  | .Mod, .int i, .int j => j ≠ 0 ∧ Q (.int (i.fmod j)) S
  | .Pow, .int i, .int j => powOk i j ∧ Q (.int (i ^ j.toNat)) S
  | .Add, .str a, .str b => a.length + b.length ≤ sizeLine ∧ Q (.str (a ++ b)) S
  | .Add, .tup xs, .tup ys => xs.length + ys.length ≤ sizeLine ∧ Q (.tup (xs ++ ys)) S
  | .Mult, .tup xs, .int k => (-1000 ≤ k ∧ k ≤ 1000 ∧ xs.length ≤ 1000) ∧ Q (.tup (List.replicate k.toNat xs).flatten) S
  | .Add, .ref a, .ref b => ∃ xs ys, S.mem a = some (.lst xs) ∧ S.mem b = some (.lst ys) ∧ xs.length + ys.length ≤ sizeLine ∧ ∀ p, S.mem p = none → Q (.ref p) (S.put p (.lst (xs ++ ys)))
  | _, _, _ => False
theorem Dats.rep {K : PySem.W.Frag} {G : GS} {H : Hp} {ds : List D} {vs : List V} (h : Dats K G H ds vs) : ∀ k : Nat, Dats K G H (List.replicate k ds).flatten (List.replicate k vs).flatten
  | 0 => by simp [Dats]
  | k + 1 => by
    rw [List.replicate_succ, List.replicate_succ, List.flatten_cons, List.flatten_cons]
    exact h.append (Dats.rep h k)
section
variable {G : GS} {X : Cx} {S0 : DS}
theorem opd_int {f : Value → Value → Sem Value} {C : Int → Int → Prop} {g : Int → Int → Int} (h : OpR X f (rI C fun i j => .int (g i j))) :
    OpD G X S0 f (fun x y S Q => ∃ i j, x = .int i ∧ y = .int j ∧ C i j ∧ Q (.int (g i j)) S) :=
  OpD.of h fun σ H ρ S x y dx dy Q R hx hy ⟨i, j, e1, e2, c, q⟩ => by
    subst e1 e2
    exact ⟨i, j, hx, hy, c, HQ.same (d := .int (g i j)) R rfl q⟩
theorem opd_int0 {f : Value → Value → Sem Value} {g : Int → Int → Int} (h : OpR X f (rI0 fun i j => .int (g i j))) :
    OpD G X S0 f (fun x y S Q => ∃ i j, x = .int i ∧ y = .int j ∧ Q (.int (g i j)) S) :=
  OpD.of h fun σ H ρ S x y dx dy Q R hx hy ⟨i, j, e1, e2, q⟩ => by
    subst e1 e2
    exact ⟨i, j, hx, hy, HQ.same (d := .int (g i j)) R rfl q⟩
theorem opd_bl0 {f : Value → Value → Sem Value} {g : Int → Int → Bool} (h : OpR X f (rI0 fun i j => .bl (g i j))) :
    OpD G X S0 f (fun x y S Q => ∃ i j, x = .int i ∧ y = .int j ∧ Q (.bl (g i j)) S) :=
  OpD.of h fun σ H ρ S x y dx dy Q R hx hy ⟨i, j, e1, e2, q⟩ => by
    subst e1 e2
    exact ⟨i, j, hx, hy, HQ.same (d := .bl (g i j)) R rfl q⟩
theorem op_fdivG : OpR X (binaryOp .FloorDiv) (rI divOk fun i j => .int (i.fdiv j)) := opI fun _ _ _ _ _ _ _ hc q => floordiv_int hc.1 q (.inl hc.2)
theorem op_powG : OpR X (binaryOp .Pow) (rI powOk fun i j => .int (i ^ j.toNat)) := opI fun _ _ _ _ _ _ _ hc q => pow_int hc.1 hc.2 q
theorem opd_bin (op : Operator) : OpD G X S0 (binaryOp op) (binS op) := by
  intro pins s σ H ρ S x y v u dx dy Q I R rx ry hx hy q
  unfold binS at q
  split at q
  · exact opd_int0 op_add pins s σ H ρ S x y v u _ _ Q I R rx ry hx hy ⟨_, _, rfl, rfl, q⟩
  · exact opd_int0 op_sub pins s σ H ρ S x y v u _ _ Q I R rx ry hx hy ⟨_, _, rfl, rfl, q⟩
  · exact opd_int op_mulW pins s σ H ρ S x y v u _ _ Q I R rx ry hx hy ⟨_, _, rfl, rfl, q.1, q.2⟩
  · exact opd_int op_fdivG pins s σ H ρ S x y v u _ _ Q I R rx ry hx hy ⟨_, _, rfl, rfl, q.1, q.2⟩
  · exact opd_int op_modN pins s σ H ρ S x y v u _ _ Q I R rx ry hx hy ⟨_, _, rfl, rfl, q.1, q.2⟩
  · exact opd_int op_powG pins s σ H ρ S x y v u _ _ Q I R rx ry hx hy ⟨_, _, rfl, rfl, q.1, q.2⟩
  · rename_i a b
    exact thn (op_add_str pins s σ H x y v u (HQ G X S0 σ ρ H S Q) I rx ry ⟨a, b, hx, hy, q.1, HQ.same (d := .str (a ++ b)) R rfl q.2⟩) fun _ _ => of_EP
  · rename_i xs ys
    unfold Dat at hx hy
    obtain ⟨a, vs, rfl, ha, hd⟩ := hx
    obtain ⟨b, ws, rfl, hb, he⟩ := hy
    have l1 := hd.length
    have l2 := he.length
    refine thn (op_catA pins s σ H _ _ v u (HQ G X S0 σ ρ H S Q) I rx ry ⟨a, b, vs, ws, rfl, rfl, ha, hb, by rw [← l1, ← l2]; exact q.1, fun e => ?_, fun _ e => ?_, fun _ _ p hp => HQ.tup R hp (hd.append he) q.2⟩) fun _ _ => of_EP
    · have z : xs = [] := List.eq_nil_of_length_eq_zero (by rw [l1, e]; rfl)
      subst z
      exact HQ.same (d := .tup ys) R (by unfold Dat; exact ⟨b, ws, rfl, hb, he⟩) q.2
    · have z : ys = [] := List.eq_nil_of_length_eq_zero (by rw [l2, e]; rfl)
      subst z
      rw [List.append_nil] at q
      exact HQ.same (d := .tup xs) R (by unfold Dat; exact ⟨a, vs, rfl, ha, hd⟩) q.2
  · rename_i xs k
    unfold Dat at hx
    obtain ⟨a, vs, rfl, ha, hd⟩ := hx
    have l1 := hd.length
    obtain ⟨⟨q1, q3, q4⟩, q⟩ := q
    have nil : ∀ {n : Nat}, (List.replicate n ([] : List D)).flatten = [] := fun {n} => by
      induction n with
      | zero => rfl
      | succ n ih => rw [List.replicate_succ, List.flatten_cons, ih]; rfl
    by_cases hz : xs = [] ∨ k ≤ 1
    · refine thn (op_repS pins s σ H _ _ v u (HQ G X S0 σ ρ H S Q) I rx ry ⟨a, k, vs, rfl, hy, ha, q1, q3, fun e => ?_, fun e1 e2 p hp => ?_, ?_⟩) fun _ _ => of_EP
      · have : (List.replicate k.toNat xs).flatten = xs := by
          rcases e with e | e
          · have : xs = [] := List.eq_nil_of_length_eq_zero (by rw [l1, e]; rfl)
            rw [this]; exact nil
          · rw [e]; simp
        rw [this] at q
        exact HQ.same (d := .tup xs) R (by unfold Dat; exact ⟨a, vs, rfl, ha, hd⟩) q
      · have e3 : k.toNat = 0 := by omega
        rw [e3] at q
        exact HQ.tup (ds := []) R hp rfl q
      · rcases hz with e | e
        · refine .inl (List.eq_nil_of_length_eq_zero ?_)
          rw [← l1, e]; rfl
        · exact .inr e
    · have hx : xs ≠ [] := fun e => hz (.inl e)
      have hk : 2 ≤ k := by
        have : ¬ k ≤ 1 := fun e => hz (.inr e)
        omega
      refine thn (op_repT pins s σ H _ _ v u (HQ G X S0 σ ρ H S Q) I rx ry ⟨a, k, vs, rfl, hy, ha, fun e => hx (List.eq_nil_of_length_eq_zero (by rw [l1, e]; rfl)), hk, q3, by rw [← l1]; exact q4, fun p hp => HQ.tup R hp ?_ q⟩) fun _ _ => of_EP
      exact Dats.rep hd k.toNat
  · rename_i a b
    obtain ⟨xs, ys, e1, e2, hz, q⟩ := q
    obtain ⟨vs, h1, hd⟩ := R.mem a _ e1
    obtain ⟨ws, h2, he⟩ := R.mem b _ e2
    have l1 := hd.length
    have l2 := he.length
    exact thn (op_cat pins s σ H _ _ v u (HQ G X S0 σ ρ H S Q) I rx ry ⟨a, b, vs, ws, hx, hy, h1, h2, by rw [← l1, ← l2]; exact hz, fun p hp => HQ.lst R hp (hd.append he) q⟩) fun _ _ => of_EP
  · exact q.elim
end
end DL

namespace DL
open PySem PySem.Spec PyProof.Rows L2

/-! ### plain data -/
mutual
def pdW (rf : Addr → Option PyData) : D → Option PyData
  | .non => some .none
  | .bl b => some (.bool b)
  | .int i => some (.int i)
  | .str x => some (.str x)
  | .tup ds => match pdWs rf ds with
    | some ps => some (.tuple ps)
    | none => none
  | .ref a => rf a
  | _ => none
def pdWs (rf : Addr → Option PyData) : List D → Option (List PyData)
  | [] => some []
  | d :: ds => match pdW rf d, pdWs rf ds with
    | some p, some ps => some (p :: ps)
    | _, _ => none
end
/-- lists within lists, so deep -/
def pdF : Nat → DS → D → Option PyData
  | 0, _ => pdW fun _ => none
  | n + 1, S => pdW fun a => match lstAt S a with
    | some ds => (match pdWs (fun b => pdF n S (.ref b)) ds with
      | some ps => some (.list ps)
      | none => none)
    | none => none
def pd (S : DS) (d : D) : Option PyData := pdF 3 S d

theorem lstAt_sq {K : PySem.W.Frag} {G : GS} {X : Cx} {S0 : DS} {σ : L2.St} {H : Hp} {ρ : Rho} {S : DS} {a : Addr} {ds : List D} (R : Rep G X S0 σ H ρ S) (h : lstAt S a = some ds) : ∃ vs, SqL X.K H a vs ∧ Dats X.K G H ds vs := by
  unfold lstAt at h
  cases e : S.mem a with
  | none => rw [e] at h; cases h
  | some o =>
    rw [e] at h
    cases o with
    | lst es => cases h; obtain ⟨vs, h1, h2⟩ := R.mem a _ e; exact ⟨vs, SqL.of h1, h2⟩
    | ro es => cases h; obtain ⟨vs, ⟨ob, h1⟩, h2⟩ := R.mem a _ e; exact ⟨vs, .inl (.inr ⟨ob, h1⟩), h2⟩
    | dk kvs => cases h

section
variable {G : GS} {X : Cx} {S0 : DS} {σ : L2.St} {H : Hp} {ρ : Rho} {S : DS}
mutual
theorem pdW_dp {rf : Addr → Option PyData} (hr : ∀ a p, rf a = some p → Dp X.K H (.ref a) p) : ∀ (d : D) (v : V) (p : PyData), Dat X.K G H d v → pdW rf d = some p → Dp X.K H v p
  | .non, v, p, h, e => by cases e; cases (show v = .non from h); exact .non
  | .bl b, v, p, h, e => by cases e; cases (show v = .bl b from h); exact .bl b
  | .int b, v, p, h, e => by cases e; cases (show v = .int b from h); exact .int b
  | .str b, v, p, h, e => by cases e; cases (show v = .str b from h); exact .str b
  | .tup ds, v, p, h, e => by
    unfold Dat at h
    obtain ⟨a, vs, rfl, hs, hd⟩ := h
    unfold pdW at e
    cases q : pdWs rf ds with
    | none => rw [q] at e; cases e
    | some ps => rw [q] at e; cases e; exact .tup hs (pdWs_dp hr ds vs ps hd q)
  | .ref a, v, p, h, e => by cases (show v = .ref a from h); exact hr a p e
  | .ty _, _, _, _, e => by cases e
  | .cls _, _, _, _, e => by cases e
  | .exc _ _, _, _, _, e => by cases e
theorem pdWs_dp {rf : Addr → Option PyData} (hr : ∀ a p, rf a = some p → Dp X.K H (.ref a) p) : ∀ (ds : List D) (vs : List V) (ps : List PyData), Dats X.K G H ds vs → pdWs rf ds = some ps → DpAll X.K H vs ps
  | [], vs, ps, h, e => by cases e; cases (show vs = [] from h); exact .nil
  | d :: ds, vs, ps, h, e => by
    obtain ⟨v, r, rfl, h1, h2⟩ := h.cases1
    unfold pdWs at e
    cases q : pdW rf d with
    | none => rw [q] at e; cases e
    | some p =>
      cases q2 : pdWs rf ds with
      | none => rw [q, q2] at e; cases e
      | some ps' => rw [q, q2] at e; cases e; exact .cons (pdW_dp hr d v p h1 q) (pdWs_dp hr ds r ps' h2 q2)
end
theorem pdF_dp (R : Rep G X S0 σ H ρ S) : ∀ (n : Nat) (d : D) (v : V) (p : PyData), Dat X.K G H d v → pdF n S d = some p → Dp X.K H v p
  | 0, d, v, p, h, e => pdW_dp (fun _ _ z => by cases z) d v p h e
  | n + 1, d, v, p, h, e => by
    refine pdW_dp (fun a q z => ?_) d v p h e
    cases e1 : lstAt S a with
    | none => rw [e1] at z; cases z
    | some ds =>
      rw [e1] at z
      cases e2 : pdWs (fun b => pdF n S (.ref b)) ds with
      | none => simp only [e2] at z; cases z
      | some ps =>
        simp only [e2] at z; cases z
        obtain ⟨vs, hs, hd⟩ := lstAt_sq (K := X.K) R e1
        exact .lst hs (pdWs_dp (fun b q' z' => pdF_dp R n (.ref b) (.ref b) q' rfl z') ds vs ps hd e2)
theorem pd_dp (R : Rep G X S0 σ H ρ S) {d : D} {v : V} {p : PyData} (h : Dat X.K G H d v) (e : pd S d = some p) : Dp X.K H v p := pdF_dp R 3 d v p h e
end

/-! ### comparisons -/
def isNon : D → Bool
  | .non => true
  | _ => false
def tupInts : List D → Option (List Int)
  | [] => some []
  | .int i :: r => (tupInts r).map (i :: ·)
  | _ :: _ => none
def cmpS (op : CmpOp) (x y : D) (S : DS) (Q : Bool → Prop) : Prop := match op, x, y with
  | .Lt, .int i, .int j => Q (decide (i < j))
  | .LtE, .int i, .int j => Q (decide (i ≤ j))
  | .Gt, .int i, .int j => Q (decide (j < i))
  | .GtE, .int i, .int j => Q (decide (j ≤ i))
  | .Lt, .str a, .str b => Q (decide (a.cps.toList < b.cps.toList))
  | .Lt, .tup xs, .tup ys => ∃ ns ms, tupInts xs = some ns ∧ tupInts ys = some ms ∧ Q (HT.lexLt ns ms)
  | .Eq, .int i, .int j => Q (decide (i = j))
  | .NotEq, .int i, .int j => Q (!decide (i = j))
  | .Eq, .str i, .str j => Q (decide (i = j))
  | .NotEq, .str i, .str j => Q (!decide (i = j))
  | .Eq, x, y => ∃ p q, pd S x = some p ∧ pd S y = some q ∧ SeqAt.shaped p = true ∧ SeqAt.shaped q = true ∧ Q (PyData.eqv p q)
  | .NotEq, x, y => ∃ p q, pd S x = some p ∧ pd S y = some q ∧ SeqAt.shaped p = true ∧ SeqAt.shaped q = true ∧ Q (!PyData.eqv p q)
  | .Is, x, .non => Q (isNon x)
  | .IsNot, x, .non => Q (!isNon x)
  | .In, x, .ref a => ∃ p ps, pd S x = some p ∧ pd S (.ref a) = some (.list ps) ∧ SeqAt.shaped p = true ∧ SeqAt.shaped (.list ps) = true ∧ Q (ps.any fun z => PyData.eqv z p)
  | .NotIn, x, .ref a => ∃ p ps, pd S x = some p ∧ pd S (.ref a) = some (.list ps) ∧ SeqAt.shaped p = true ∧ SeqAt.shaped (.list ps) = true ∧ Q (!ps.any fun z => PyData.eqv z p)
  | .In, x, .tup ys => ∃ p ps, pd S x = some p ∧ pd S (.tup ys) = some (.tuple ps) ∧ SeqAt.shaped p = true ∧ SeqAt.shaped (.tuple ps) = true ∧ Q (ps.any fun z => PyData.eqv z p)
  | .NotIn, x, .tup ys => ∃ p ps, pd S x = some p ∧ pd S (.tup ys) = some (.tuple ps) ∧ SeqAt.shaped p = true ∧ SeqAt.shaped (.tuple ps) = true ∧ Q (!ps.any fun z => PyData.eqv z p)
  | .In, .str a, .str b => Q (!(Builtin.Str.occurrences b a 0 b.length 1).isEmpty)
  | .NotIn, .str a, .str b => Q (!(!(Builtin.Str.occurrences b a 0 b.length 1).isEmpty))
  | _, _, _ => False
def cmpV (op : CmpOp) : R2D := fun x y S Q => cmpS op x y S fun b => Q (.bl b) S

theorem Dats.ints {K : PySem.W.Frag} {G : GS} {H : Hp} : ∀ {ds : List D} {vs : List V} {ns : List Int}, Dats K G H ds vs → tupInts ds = some ns → vs = ns.map V.int
  | [], vs, ns, h, e => by cases e; exact h
  | d :: ds, vs, ns, h, e => by
    obtain ⟨v, r, rfl, h1, h2⟩ := h.cases1
    cases d with
    | int i =>
      unfold tupInts at e
      cases q : tupInts ds with
      | none => rw [q] at e; cases e
      | some ms =>
        rw [q] at e; cases e
        rw [h2.ints q, show v = V.int i from h1]; rfl
    | _ => cases e
theorem isNon_of {K : PySem.W.Frag} {G : GS} {H : Hp} : ∀ {d : D} {v : V}, Dat K G H d v → decide (v = .non) = isNon d := fun {d v} h => by
  cases d with
  | non => cases (show v = .non from h); rfl
  | bl b => cases (show v = .bl b from h); rfl
  | int b => cases (show v = .int b from h); rfl
  | str b => cases (show v = .str b from h); rfl
  | ty b => cases (show v = .ty b from h); rfl
  | ref b => cases (show v = .ref b from h); rfl
  | cls b => cases (show v = .ref (G.cl b) from h); rfl
  | tup ds => unfold Dat at h; obtain ⟨a, vs, rfl, _⟩ := h; rfl
  | exc n d => unfold Dat at h; obtain ⟨a, _, _, _, _, _, rfl, _⟩ := h; rfl
/-- x in a tuple, of data -/
def rInDT (K : PySem.W.Frag) (neg : Bool) : R2 := fun x y H Q => ∃ d ds, Dp K H x d ∧ Dp K H y (.tuple ds) ∧ SeqAt.shaped d = true ∧ SeqAt.shaped (.tuple ds) = true ∧ Q (.bl (if neg then !(ds.any fun z => PyData.eqv z d) else ds.any fun z => PyData.eqv z d)) H
theorem op_inDT {X : Cx} (hu : X.A.units + 65 < cLine) : OpR X (compareOp .In) (rInDT X.K false) := by
  intro pins s σ H x y v u Q I rx ry h
  obtain ⟨d, ds, hd, he, sd, se, q⟩ := h
  obtain ⟨as, r1⟩ := Dp.reads I d x v hd rx
  obtain ⟨bs, r2⟩ := Dp.reads I (.tuple ds) y u he ry
  exact SeqAt.in_tuple_reads r2 r1 (SeqAt.canLay_of_shaped se) (SeqAt.canLay_of_shaped sd) (room_in_shaped sd hu) ⟨.bl _, H, I, rfl, q⟩
theorem op_notInDT {X : Cx} (hu : X.A.units + 65 < cLine) : OpR X (compareOp .NotIn) (rInDT X.K true) := by
  intro pins s σ H x y v u Q I rx ry h
  obtain ⟨d, ds, hd, he, sd, se, q⟩ := h
  obtain ⟨as, r1⟩ := Dp.reads I d x v hd rx
  obtain ⟨bs, r2⟩ := Dp.reads I (.tuple ds) y u he ry
  exact SeqAt.notIn_tuple_reads r2 r1 (SeqAt.canLay_of_shaped se) (SeqAt.canLay_of_shaped sd) (room_in_shaped sd hu) ⟨.bl _, H, I, rfl, q⟩
section
variable {G : GS} {X : Cx} {S0 : DS}
/-- room for comparisons of data -/
theorem opd_cmp (hu : X.A.units + 65 < cLine) (op : CmpOp) : OpD G X S0 (compareOp op) (cmpV op) := by
  intro pins s σ H ρ S x y v u dx dy Q I R rx ry hx hy q
  have eqd : ∀ p q', pd S dx = some p → pd S dy = some q' → SeqAt.shaped p = true → SeqAt.shaped q' = true → Q (.bl (PyData.eqv p q')) S → wpAny (model X.prog X.w) X.A (compareOp .Eq v u) (DP G X S0 pins σ ρ H S Q) X.xe s := fun p q' h1 h2 h3 h4 h5 =>
    thn (op_eqD (by omega) pins s σ H x y v u (HQ G X S0 σ ρ H S Q) I rx ry ⟨p, q', pd_dp R hx h1, pd_dp R hy h2, h3, h4, HQ.same (d := .bl _) R rfl h5⟩) fun _ _ => of_EP
  have ned : ∀ p q', pd S dx = some p → pd S dy = some q' → SeqAt.shaped p = true → SeqAt.shaped q' = true → Q (.bl (!PyData.eqv p q')) S → wpAny (model X.prog X.w) X.A (compareOp .NotEq v u) (DP G X S0 pins σ ρ H S Q) X.xe s := fun p q' h1 h2 h3 h4 h5 =>
    thn (op_neD (by omega) pins s σ H x y v u (HQ G X S0 σ ρ H S Q) I rx ry ⟨p, q', pd_dp R hx h1, pd_dp R hy h2, h3, h4, HQ.same (d := .bl _) R rfl h5⟩) fun _ _ => of_EP
  unfold cmpV cmpS at q
  split at q
  · exact opd_bl0 op_lt pins s σ H ρ S x y v u _ _ Q I R rx ry hx hy ⟨_, _, rfl, rfl, q⟩
  · exact opd_bl0 op_le pins s σ H ρ S x y v u _ _ Q I R rx ry hx hy ⟨_, _, rfl, rfl, q⟩
  · exact opd_bl0 op_gt pins s σ H ρ S x y v u _ _ Q I R rx ry hx hy ⟨_, _, rfl, rfl, q⟩
  · exact opd_bl0 op_ge pins s σ H ρ S x y v u _ _ Q I R rx ry hx hy ⟨_, _, rfl, rfl, q⟩
  · rename_i a b
    exact thn (op_lt_str pins s σ H x y v u (HQ G X S0 σ ρ H S Q) I rx ry ⟨a, b, hx, hy, HQ.same (d := .bl _) R rfl q⟩) fun _ _ => of_EP
  · rename_i xs ys
    obtain ⟨ns, ms, e1, e2, q⟩ := q
    unfold Dat at hx hy
    obtain ⟨a, vs, rfl, ha, hd⟩ := hx
    obtain ⟨b, ws, rfl, hb, he⟩ := hy
    rw [hd.ints e1] at ha
    rw [he.ints e2] at hb
    exact thn (op_ltT (by omega) pins s σ H _ _ v u (HQ G X S0 σ ρ H S Q) I rx ry ⟨a, b, ns, ms, rfl, rfl, ha, hb, HQ.same (d := .bl _) R rfl q⟩) fun _ _ => of_EP
  · rename_i a b
    cases (show x = .int a from hx); cases (show y = .int b from hy)
    refine thn (op_eq pins s σ H _ _ v u (HQ G X S0 σ ρ H S Q) I rx ry ⟨rfl, HQ.same (d := .bl _) R rfl ?_⟩) fun _ _ => of_EP
    simpa using q
  · rename_i a b
    cases (show x = .int a from hx); cases (show y = .int b from hy)
    refine thn (op_ne pins s σ H _ _ v u (HQ G X S0 σ ρ H S Q) I rx ry ⟨rfl, HQ.same (d := .bl _) R rfl ?_⟩) fun _ _ => of_EP
    simpa using q
  · rename_i a b
    cases (show x = .str a from hx); cases (show y = .str b from hy)
    refine thn (op_eq pins s σ H _ _ v u (HQ G X S0 σ ρ H S Q) I rx ry ⟨rfl, HQ.same (d := .bl _) R rfl ?_⟩) fun _ _ => of_EP
    simpa using q
  · rename_i a b
    cases (show x = .str a from hx); cases (show y = .str b from hy)
    refine thn (op_ne pins s σ H _ _ v u (HQ G X S0 σ ρ H S Q) I rx ry ⟨rfl, HQ.same (d := .bl _) R rfl ?_⟩) fun _ _ => of_EP
    simpa using q
  · obtain ⟨p, q', h1, h2, h3, h4, h5⟩ := q
    exact eqd p q' h1 h2 h3 h4 h5
  · obtain ⟨p, q', h1, h2, h3, h4, h5⟩ := q
    exact ned p q' h1 h2 h3 h4 h5
  · cases (show y = .non from hy)
    exact thn (op_isN pins s σ H _ _ v u (HQ G X S0 σ ρ H S Q) I rx ry ⟨rfl, HQ.same (d := .bl _) R rfl (by rw [isNon_of hx]; exact q)⟩) fun _ _ => of_EP
  · cases (show y = .non from hy)
    exact thn (op_notN pins s σ H _ _ v u (HQ G X S0 σ ρ H S Q) I rx ry ⟨rfl, HQ.same (d := .bl _) R rfl (by rw [isNon_of hx]; exact q)⟩) fun _ _ => of_EP
  · rename_i a
    obtain ⟨p, ps, h1, h2, h3, h4, q⟩ := q
    exact thn (op_inD (by omega) pins s σ H _ _ v u (HQ G X S0 σ ρ H S Q) I rx ry ⟨p, ps, pd_dp R hx h1, pd_dp R hy h2, h3, h4, HQ.same (d := .bl _) R rfl q⟩) fun _ _ => of_EP
  · rename_i a
    obtain ⟨p, ps, h1, h2, h3, h4, q⟩ := q
    exact thn (op_notInD (by omega) pins s σ H _ _ v u (HQ G X S0 σ ρ H S Q) I rx ry ⟨p, ps, pd_dp R hx h1, pd_dp R hy h2, h3, h4, HQ.same (d := .bl _) R rfl q⟩) fun _ _ => of_EP
  · rename_i ys
    obtain ⟨p, ps, h1, h2, h3, h4, q⟩ := q
    exact thn (op_inDT (by omega) pins s σ H _ _ v u (HQ G X S0 σ ρ H S Q) I rx ry ⟨p, ps, pd_dp R hx h1, pd_dp R hy h2, h3, h4, HQ.same (d := .bl _) R rfl q⟩) fun _ _ => of_EP
  · rename_i ys
    obtain ⟨p, ps, h1, h2, h3, h4, q⟩ := q
    exact thn (op_notInDT (by omega) pins s σ H _ _ v u (HQ G X S0 σ ρ H S Q) I rx ry ⟨p, ps, pd_dp R hx h1, pd_dp R hy h2, h3, h4, HQ.same (d := .bl _) R rfl q⟩) fun _ _ => of_EP
  · rename_i a b
    exact thn (op_in_str pins s σ H _ _ v u (HQ G X S0 σ ρ H S Q) I rx ry ⟨a, b, hx, hy, HQ.same (d := .bl _) R rfl q⟩) fun _ _ => of_EP
  · rename_i a b
    exact thn (op_notIn_str pins s σ H _ _ v u (HQ G X S0 σ ρ H S Q) I rx ry ⟨a, b, hx, hy, HQ.same (d := .bl _) R rfl q⟩) fun _ _ => of_EP
  · exact q.elim
end

theorem cmpS_imp {op : CmpOp} {x y : D} {S : DS} {Q Q2 : Bool → Prop} (h : cmpS op x y S Q) (c : ∀ k, Q k → Q2 k) : cmpS op x y S Q2 := by
  unfold cmpS at h ⊢
  split at h <;> first | exact c _ h | (obtain ⟨p, q, h1, h2, h3, h4, h5⟩ := h; exact ⟨p, q, h1, h2, h3, h4, c _ h5⟩) | (obtain ⟨p, q, h1, h2, h5⟩ := h; exact ⟨p, q, h1, h2, c _ h5⟩) | exact h.elim

/-! ### truth, length -/
def truS (x : D) (S : DS) (Q : Bool → Prop) : Prop := match x with
  | .non => Q false
  | .bl b => Q b
  | .int i => Q (i != 0)
  | .str y => y.length ≤ sizeLine ∧ Q ((y.length : Int) != 0)
  | .tup ds => Q !ds.isEmpty
  | .ref a => ∃ ds, lstAt S a = some ds ∧ Q !ds.isEmpty
  | _ => False
theorem isEmpty_dats {K : PySem.W.Frag} {G : GS} {H : Hp} {ds : List D} {vs : List V} (h : Dats K G H ds vs) : vs.isEmpty = ds.isEmpty := by
  cases ds with
  | nil => cases (show vs = [] from h); rfl
  | cons d r => obtain ⟨v, s, rfl, _⟩ := h.cases1; rfl
/-- a test has come to a truth -/
def TPD (G : GS) (X : Cx) (S0 : DS) (pins : List (Addr × Obj)) (σ : L2.St) (ρ : Rho) (H : Hp) (S : DS) (Q : Bool → DS → Prop) (b : Bool) (s' : Shared) : Prop :=
  ∃ H' S', Inv X pins σ H' s' ∧ Rep G X S0 σ H' ρ S' ∧ Step H S H' S' ∧ Q b S'
section
variable {G : GS} {X : Cx} {S0 : DS}
theorem tru_d {pins : List (Addr × Obj)} {s : Shared} {σ : L2.St} {H : Hp} {ρ : Rho} {S : DS} {x : V} {v : Value} {d : D} {Q : Bool → DS → Prop} (I : Inv X pins σ H s) (R : Rep G X S0 σ H ρ S) (rx : RelV x v) (hx : Dat X.K G H d x) (q : truS d S fun b => Q b S) :
    wpAny (model X.prog X.w) X.A (truthy v) (TPD G X S0 pins σ ρ H S Q) X.xe s := by
  have go : ∀ k, TruV X.K x H k → Q k S → wpAny (model X.prog X.w) X.A (truthy v) (TPD G X S0 pins σ ρ H S Q) X.xe s := fun k h1 h2 =>
    thn (tru_ok pins s σ H x v (fun b H' => H' = H ∧ Q b S) I rx ⟨k, h1, rfl, h2⟩) fun b s' ⟨H', I', e, q'⟩ => by subst e; exact ⟨_, S, I', R, Step.refl _ _, q'⟩
  cases d with
  | non => cases (show x = .non from hx); exact go false rfl q
  | bl b => cases (show x = .bl b from hx); exact go b rfl q
  | int b => cases (show x = .int b from hx); exact go _ rfl q
  | str b => cases (show x = .str b from hx); exact go _ ⟨q.1, rfl⟩ q.2
  | tup ds =>
    unfold Dat at hx
    obtain ⟨a, vs, rfl, ha, hd⟩ := hx
    exact go _ (.inr (.inl ⟨vs, ha, rfl⟩)) (by rw [isEmpty_dats hd]; exact q)
  | ref a =>
    obtain ⟨ds, e, q⟩ := q
    obtain ⟨vs, ha, hd⟩ := lstAt_sq (K := X.K) R e
    cases (show x = .ref a from hx)
    exact go _ (.inl ⟨vs, ha, rfl⟩) (by rw [isEmpty_dats hd]; exact q)
  | ty _ => exact q.elim
  | cls _ => exact q.elim
  | exc _ _ => exact q.elim
end
end DL

namespace DL
open PySem PySem.Spec PyProof.Rows L2

abbrev DTT := Rho → DS → (Bool → DS → Prop) → Prop
abbrev DTA := Rho → DS → (List D → DS → Prop) → Prop
/-- a test -/
structure DTe (G : GS) (X : Cx) (S0 : DS) (e : Expr) (t : DTT) : Prop where
  run : ∀ (pins : List (Addr × Obj)) (s : Shared) (σ : L2.St) (H : Hp) (ρ : Rho) (S : DS) (Q : Bool → DS → Prop), Inv X pins σ H s → Rep G X S0 σ H ρ S → t ρ S Q →
    wpAny (model X.prog X.w) X.A (isTrue e X.env (eval e X.env)) (TPD G X S0 pins σ ρ H S Q) X.xe s
/-- a test whatever its 'whole' is (and, or) -/
structure DWe (G : GS) (X : Cx) (S0 : DS) (e : Expr) (t : DTT) : Prop where
  run : ∀ (whole : Sem Value) (pins : List (Addr × Obj)) (s : Shared) (σ : L2.St) (H : Hp) (ρ : Rho) (S : DS) (Q : Bool → DS → Prop), Inv X pins σ H s → Rep G X S0 σ H ρ S → t ρ S Q →
    wpAny (model X.prog X.w) X.A (isTrue e X.env whole) (TPD G X S0 pins σ ρ H S Q) X.xe s
theorem DWe.te {G : GS} {X : Cx} {S0 : DS} {e : Expr} {t : DTT} (h : DWe G X S0 e t) : DTe G X S0 e t := ⟨h.run _⟩
def DAP (G : GS) (X : Cx) (S0 : DS) (pins : List (Addr × Obj)) (σ : L2.St) (ρ : Rho) (H : Hp) (S : DS) (Q : List D → DS → Prop) (us : List Value) (s' : Shared) : Prop :=
  ∃ vs H' ds S', Inv X pins σ H' s' ∧ Vals vs us ∧ Dats X.K G H' ds vs ∧ Rep G X S0 σ H' ρ S' ∧ Step H S H' S' ∧ Q ds S'
/-- written items, from the left (stars too) -/
structure DA (G : GS) (X : Cx) (S0 : DS) (es : List Expr) (t : DTA) : Prop where
  run : ∀ (pos : Pos) (pins : List (Addr × Obj)) (s : Shared) (σ : L2.St) (H : Hp) (ρ : Rho) (S : DS) (Q : List D → DS → Prop), Inv X pins σ H s → Rep G X S0 σ H ρ S → t ρ S Q →
    wpAny (model X.prog X.w) X.A (spliced (backTo pos (starEach es X.env))) (DAP G X S0 pins σ ρ H S Q) X.xe s
section
variable {G : GS} {X : Cx} {S0 : DS} {e a b c : Expr} {es : List Expr} {ta tb tc : DT} {pos : Pos}
/-- the frame moves on to a later moment -/
theorem TPD.after {pins : List (Addr × Obj)} {σ : L2.St} {ρ : Rho} {H H1 : Hp} {S S1 : DS} {Q : Bool → DS → Prop} {b : Bool} {s' : Shared} (st : Step H S H1 S1) (h : TPD G X S0 pins σ ρ H1 S1 Q b s') : TPD G X S0 pins σ ρ H S Q b s' := by
  obtain ⟨H', S', I, R, s2, q⟩ := h
  exact ⟨H', S', I, R, st.trans s2, q⟩
theorem DAP.after {pins : List (Addr × Obj)} {σ : L2.St} {ρ : Rho} {H H1 : Hp} {S S1 : DS} {Q : List D → DS → Prop} {us : List Value} {s' : Shared} (st : Step H S H1 S1) (h : DAP G X S0 pins σ ρ H1 S1 Q us s') : DAP G X S0 pins σ ρ H S Q us s' := by
  obtain ⟨vs, H', ds, S', I, r, h1, h2, h3, h4⟩ := h
  exact ⟨vs, H', ds, S', I, r, h1, h2, st.trans h3, h4⟩

/-! ### names, constants -/
def getV (ρ : Rho) (i : Nat) : Option D := match ρ[i]? with
  | some (some d) => some d
  | _ => none
def bindO {α : Type} (o : Option α) (k : α → Prop) : Prop := match o with
  | some a => k a
  | none => False
theorem de_var {i : Nat} {x : Str} (hN : X.N[i]? = some x) (hv : Vis X.env.scope x) (hd : (x == ("__debug__" : Str)) = false) (hcd : (x == ("__classdict__" : Str)) = false) :
    DE G X S0 (.Name x pos) (fun ρ S Q => bindO (getV ρ i) fun d => Q d S) := by
  refine ⟨fun pins s σ H ρ S Q I R h => ?_⟩
  have h : bindO (getV ρ i) fun d => Q d S := h
  unfold getV at h
  cases e : ρ[i]? with
  | none => rw [e] at h; exact h.elim
  | some o =>
    rw [e] at h
    cases o with
    | none => exact h.elim
    | some d =>
      obtain ⟨v, e1, e2⟩ := R.env i d e
      exact thn ((pe_var (pos := pos) hN hv hd hcd).run pins s σ H (HQ G X S0 σ ρ H S Q) I ⟨v, e1, HQ.same R e2 h⟩) fun _ _ => of_EP
theorem de_int {i : Int} {j : Nat} : DE G X S0 (.Constant (.int i) j pos) (fun _ S Q => Q (.int i) S) :=
  ⟨fun pins s σ H ρ S Q I R h => thn (pe_int.run pins s σ H (HQ G X S0 σ ρ H S Q) I (HQ.same (d := .int i) R rfl h)) fun _ _ => of_EP⟩
theorem de_bl {i : Bool} {j : Nat} : DE G X S0 (.Constant (.bool i) j pos) (fun _ S Q => Q (.bl i) S) :=
  ⟨fun pins s σ H ρ S Q I R h => thn (pe_bl.run pins s σ H (HQ G X S0 σ ρ H S Q) I (HQ.same (d := .bl i) R rfl h)) fun _ _ => of_EP⟩
theorem de_str {i : Str} {j : Nat} : DE G X S0 (.Constant (.str i) j pos) (fun _ S Q => Q (.str i) S) :=
  ⟨fun pins s σ H ρ S Q I R h => thn (pe_str.run pins s σ H (HQ G X S0 σ ρ H S Q) I (HQ.same (d := .str i) R rfl h)) fun _ _ => of_EP⟩
theorem de_non {j : Nat} : DE G X S0 (.Constant .none j pos) (fun _ S Q => Q .non S) :=
  ⟨fun pins s σ H ρ S Q I R h => thn (pe_non.run pins s σ H (HQ G X S0 σ ρ H S Q) I (HQ.same (d := .non) R rfl h)) fun _ _ => of_EP⟩
theorem de_glob {x : Str} {d : D} {v : V} {u : Value} (hg : Gl X x) (hm : X.mg x = some u) (r : RelV v u) (hd : ∀ H, Dat X.K G H d v) (hdb : (x == ("__debug__" : Str)) = false) : DE G X S0 (.Name x pos) (fun _ S Q => Q d S) :=
  ⟨fun pins s σ H ρ S Q I R h => ld_glob I hg hm (DP.same I R r (hd H) h) hdb⟩
theorem de_blt {x : Str} {d : D} {v : V} {u : Value} (hg : Gl X x) (hm : X.mg x = none) (hv : bootBuiltins x = some u) (r : RelV v u) (hd : ∀ H, Dat X.K G H d v) (hn : x ≠ "__name__") (hdb : (x == ("__debug__" : Str)) = false) : DE G X S0 (.Name x pos) (fun _ S Q => Q d S) :=
  ⟨fun pins s σ H ρ S Q I R h => ld_blt I hg hm hv (DP.same I R r (hd H) h) hn hdb⟩

/-! ### operators -/
theorem de_bin {op : Operator} (ha : DE G X S0 a ta) (hb : DE G X S0 b tb) : DE G X S0 (.BinOp a op b pos) (fun ρ S Q => ta ρ S fun x S1 => tb ρ S1 fun y S2 => binS op x y S2 Q) := by
  refine ⟨fun pins s σ H ρ S Q I R h => ?_⟩
  refine wpAny_BinOp (thn (ha.run pins s σ H ρ S _ I R h) fun v s1 ⟨x, H1, d1, S1, I1, r1, h1, R1, t1, q1⟩ => ?_)
  refine thn (hb.run pins s1 σ H1 ρ S1 _ I1 R1 q1) fun u s2 ⟨y, H2, d2, S2, I2, r2, h2, R2, t2, q2⟩ => ?_
  exact thn (opd_bin op pins s2 σ H2 ρ S2 x y v u d1 d2 Q I2 R2 r1 r2 (Dat.mono t2.k _ _ h1) h2 q2) fun _ _ z => z.after (t1.trans t2)
def negS (x : D) (S : DS) (Q : QE) : Prop := match x with
  | .int i => Q (.int (-i)) S
  | _ => False
theorem de_neg (ha : DE G X S0 a ta) : DE G X S0 (.UnaryOp .USub a pos) (fun ρ S Q => ta ρ S fun x S1 => negS x S1 Q) := by
  refine ⟨fun pins s σ H ρ S Q I R h => ?_⟩
  refine UnaryOp_ (thn (ha.run pins s σ H ρ S _ I R h) fun v s1 ⟨x, H1, d1, S1, I1, r1, h1, R1, t1, q1⟩ => ?_)
  cases d1 with
  | int i =>
    exact thn (un_neg pins s1 σ H1 x v (HQ G X S0 σ ρ H1 S1 Q) I1 r1 ⟨i, h1, HQ.same (d := .int (-i)) R1 rfl q1⟩) fun _ _ z => (of_EP z).after t1
  | _ => exact (show False from q1).elim
theorem de_cmp {op : CmpOp} (hu : X.A.units + 65 < cLine) (ha : DE G X S0 a ta) (hb : DE G X S0 b tb) (hm : behindInMarks op b = false) : DE G X S0 (.Compare a [op] [b] pos) (fun ρ S Q => ta ρ S fun x S1 => tb ρ S1 fun y S2 => cmpS op x y S2 fun k => Q (.bl k) S2) := by
  refine ⟨fun pins s σ H ρ S Q I R h => ?_⟩
  refine wpAny_Compare1 (thn (ha.run pins s σ H ρ S _ I R h) fun v s1 ⟨x, H1, d1, S1, I1, r1, h1, R1, t1, q1⟩ => ?_) hm
  refine thn (hb.run pins s1 σ H1 ρ S1 _ I1 R1 q1) fun u s2 ⟨y, H2, d2, S2, I2, r2, h2, R2, t2, q2⟩ => ?_
  exact thn (opd_cmp hu op pins s2 σ H2 ρ S2 x y v u d1 d2 Q I2 R2 r1 r2 (Dat.mono t2.k _ _ h1) h2 q2) fun _ _ z => z.after (t1.trans t2)
/-- a value that is a truth, as a test's end -/
theorem tru_bl {pins : List (Addr × Obj)} {σ : L2.St} {ρ : Rho} {H : Hp} {S : DS} {Q : Bool → DS → Prop} {u : Value} {s1 : Shared} (h : DP G X S0 pins σ ρ H S (fun d S' => bindO (match d with | .bl k => some k | _ => none) fun k => Q k S') u s1) :
    wpAny (model X.prog X.w) X.A (truthy u) (TPD G X S0 pins σ ρ H S Q) X.xe s1 := by
  obtain ⟨v, H', d, S', I, r, h1, R, t, q⟩ := h
  cases d with
  | bl k =>
    cases (show v = .bl k from h1)
    cases r
    exact wpAny_truthy_bool ⟨H', S', I, R, t, q⟩
  | _ => exact (show False from q).elim
theorem dt_cmp {op : CmpOp} (hu : X.A.units + 65 < cLine) (ha : DE G X S0 a ta) (hb : DE G X S0 b tb) (hm : behindInMarks op b = false) : DTe G X S0 (.Compare a [op] [b] pos) (fun ρ S Q => ta ρ S fun x S1 => tb ρ S1 fun y S2 => cmpS op x y S2 fun k => Q k S2) := by
  refine ⟨fun pins s σ H ρ S Q I R h => ?_⟩
  refine wpAny_isTrue_Compare1 (thn (ha.run pins s σ H ρ S _ I R h) fun v s1 ⟨x, H1, d1, S1, I1, r1, h1, R1, t1, q1⟩ => ?_) hm
  refine thn (hb.run pins s1 σ H1 ρ S1 _ I1 R1 q1) fun u s2 ⟨y, H2, d2, S2, I2, r2, h2, R2, t2, q2⟩ => ?_
  exact thn (opd_cmp hu op pins s2 σ H2 ρ S2 x y v u d1 d2 (fun d S' => bindO (match d with | .bl k => some k | _ => none) fun k => Q k S') I2 R2 r1 r2 (Dat.mono t2.k _ _ h1) h2 q2) fun _ _ z => tru_bl (z.after (t1.trans t2))
/-- any expression as a test by its value's truth -/
theorem dt_val (ha : DE G X S0 a ta) (he : ∀ whole, isTrue a X.env whole = (do let v ← whole; standAt a.pos; holding [v] (truthy v))) : DTe G X S0 a (fun ρ S Q => ta ρ S fun d S' => truS d S' fun k => Q k S') := by
  refine ⟨fun pins s σ H ρ S Q I R h => ?_⟩
  refine isTrue_plain (thn (ha.run pins s σ H ρ S _ I R h) fun v s1 ⟨x, H1, d1, S1, I1, r1, h1, R1, t1, q1⟩ => ?_) (he _)
  exact thn (tru_d I1 R1 r1 h1 q1) fun _ _ z => z.after t1
variable {tA tB' : DTT} {rest : List Expr}
theorem dw_and1 (ha : DTe G X S0 a tA) : DWe G X S0 (.BoolOp .And [a] pos) tA := by
  refine ⟨fun wh pins s σ H ρ S Q I R h => ?_⟩
  refine isTrue_and (thn (ha.run pins s σ H ρ S Q I R h) fun c s1 e => ?_)
  cases c with
  | true => exact isTrue_and_nil e
  | false => exact e
theorem dw_or1 (ha : DTe G X S0 a tA) : DWe G X S0 (.BoolOp .Or [a] pos) tA := by
  refine ⟨fun wh pins s σ H ρ S Q I R h => ?_⟩
  refine isTrue_or (thn (ha.run pins s σ H ρ S Q I R h) fun c s1 e => ?_)
  cases c with
  | false => exact isTrue_or_nil e
  | true => exact e
theorem dw_and (ha : DTe G X S0 a tA) (hb : DWe G X S0 (.BoolOp .And (b :: rest) pos) tB') : DWe G X S0 (.BoolOp .And (a :: b :: rest) pos) (fun ρ S Q => tA ρ S fun c S1 => if c = true then tB' ρ S1 Q else Q false S1) := by
  refine ⟨fun wh pins s σ H ρ S Q I R h => ?_⟩
  refine isTrue_and (thn (ha.run pins s σ H ρ S _ I R h) fun c s1 ⟨H1, S1, I1, R1, t1, q1⟩ => ?_)
  cases c with
  | true => exact thn (hb.run wh pins s1 σ H1 ρ S1 Q I1 R1 q1) fun _ _ z => z.after t1
  | false => exact ⟨H1, S1, I1, R1, t1, q1⟩
theorem dw_or (ha : DTe G X S0 a tA) (hb : DWe G X S0 (.BoolOp .Or (b :: rest) pos) tB') : DWe G X S0 (.BoolOp .Or (a :: b :: rest) pos) (fun ρ S Q => tA ρ S fun c S1 => if c = true then Q true S1 else tB' ρ S1 Q) := by
  refine ⟨fun wh pins s σ H ρ S Q I R h => ?_⟩
  refine isTrue_or (thn (ha.run pins s σ H ρ S _ I R h) fun c s1 ⟨H1, S1, I1, R1, t1, q1⟩ => ?_)
  cases c with
  | true => exact ⟨H1, S1, I1, R1, t1, q1⟩
  | false => exact thn (hb.run wh pins s1 σ H1 ρ S1 Q I1 R1 q1) fun _ _ z => z.after t1
theorem dt_not (ha : DTe G X S0 a tA) : DTe G X S0 (.UnaryOp .Not a pos) (fun ρ S Q => tA ρ S fun c S1 => Q (!c) S1) := by
  refine ⟨fun pins s σ H ρ S Q I R h => ?_⟩
  exact isTrue_not (ha.run pins s σ H ρ S (fun c S1 => Q (!c) S1) I R h)
theorem de_one {op : BoolOp} (h : DE G X S0 a ta) : DE G X S0 (.BoolOp op [a] pos) ta := ⟨fun pins s σ H ρ S Q I R hw => BoolOp_one (h.run pins s σ H ρ S Q I R hw)⟩
theorem de_and (ha : DE G X S0 a ta) (hb : DE G X S0 (.BoolOp .And (b :: rest) pos) tb) : DE G X S0 (.BoolOp .And (a :: b :: rest) pos) (fun ρ S Q => ta ρ S fun x S1 => truS x S1 fun k => if k = true then tb ρ S1 Q else Q x S1) := by
  refine ⟨fun pins s σ H ρ S Q I R h => ?_⟩
  refine BoolOp_and (thn (ha.run pins s σ H ρ S _ I R h) fun v s1 ⟨x, H1, d1, S1, I1, r1, h1, R1, t1, q1⟩ => ?_)
  refine thn (tru_d (Q := fun k S2 => S2 = S1 ∧ if k = true then tb ρ S1 Q else Q d1 S1) I1 R1 r1 h1 ?_) fun k s2 ⟨H2, S2, I2, R2, t2, e, q2⟩ => ?_
  · have h2 : truS d1 S1 fun k => if k = true then tb ρ S1 Q else Q d1 S1 := q1
    unfold truS at h2 ⊢
    split at h2 <;> first | exact ⟨rfl, h2⟩ | exact ⟨h2.1, rfl, h2.2⟩ | (obtain ⟨ds, e, q⟩ := h2; exact ⟨ds, e, rfl, q⟩) | exact h2.elim
  · subst e
    cases k with
    | true => exact thn (hb.run pins s2 σ H2 ρ _ Q I2 R2 q2) fun _ _ z => z.after (t1.trans t2)
    | false => exact ⟨x, H2, d1, _, I2, r1, Dat.mono t2.k _ _ h1, R2, t1.trans t2, q2⟩
theorem de_or (ha : DE G X S0 a ta) (hb : DE G X S0 (.BoolOp .Or (b :: rest) pos) tb) : DE G X S0 (.BoolOp .Or (a :: b :: rest) pos) (fun ρ S Q => ta ρ S fun x S1 => truS x S1 fun k => if k = true then Q x S1 else tb ρ S1 Q) := by
  refine ⟨fun pins s σ H ρ S Q I R h => ?_⟩
  refine BoolOp_or (thn (ha.run pins s σ H ρ S _ I R h) fun v s1 ⟨x, H1, d1, S1, I1, r1, h1, R1, t1, q1⟩ => ?_)
  refine thn (tru_d (Q := fun k S2 => S2 = S1 ∧ if k = true then Q d1 S1 else tb ρ S1 Q) I1 R1 r1 h1 ?_) fun k s2 ⟨H2, S2, I2, R2, t2, e, q2⟩ => ?_
  · have h2 : truS d1 S1 fun k => if k = true then Q d1 S1 else tb ρ S1 Q := q1
    unfold truS at h2 ⊢
    split at h2 <;> first | exact ⟨rfl, h2⟩ | exact ⟨h2.1, rfl, h2.2⟩ | (obtain ⟨ds, e, q⟩ := h2; exact ⟨ds, e, rfl, q⟩) | exact h2.elim
  · subst e
    cases k with
    | false => exact thn (hb.run pins s2 σ H2 ρ _ Q I2 R2 q2) fun _ _ z => z.after (t1.trans t2)
    | true => exact ⟨x, H2, d1, _, I2, r1, Dat.mono t2.k _ _ h1, R2, t1.trans t2, q2⟩
theorem de_not (ha : DE G X S0 a ta) : DE G X S0 (.UnaryOp .Not a pos) (fun ρ S Q => ta ρ S fun x S1 => truS x S1 fun k => Q (.bl (!k)) S1) := by
  refine ⟨fun pins s σ H ρ S Q I R h => ?_⟩
  refine UnaryOp_ (thn (ha.run pins s σ H ρ S _ I R h) fun v s1 ⟨x, H1, d1, S1, I1, r1, h1, R1, t1, q1⟩ => ?_)
  exact not_of (thn (tru_d I1 R1 r1 h1 q1) fun k s2 ⟨H2, S2, I2, R2, t2, q2⟩ => ⟨.bl (!k), H2, .bl (!k), S2, I2, rfl, rfl, R2, t1.trans t2, q2⟩)
theorem de_ife (hc : DTe G X S0 c tA) (ha : DE G X S0 a ta) (hb : DE G X S0 b tb) : DE G X S0 (.IfExp c a b pos) (fun ρ S Q => tA ρ S fun k S1 => if k = true then ta ρ S1 Q else tb ρ S1 Q) := by
  refine ⟨fun pins s σ H ρ S Q I R h => ?_⟩
  refine wpAny_IfExp (thn (hc.run pins s σ H ρ S _ I R h) fun d s1 ⟨H1, S1, I1, R1, t1, q1⟩ => ?_)
  cases d with
  | true => exact thn (ha.run pins s1 σ H1 ρ S1 Q I1 R1 q1) fun _ _ z => z.after t1
  | false => exact thn (hb.run pins s1 σ H1 ρ S1 Q I1 R1 q1) fun _ _ z => z.after t1

/-! ### items, displays -/
variable {t : DTA}
theorem da_nil : DA G X S0 [] (fun _ S Q => Q [] S) := ⟨fun _ _ _ _ H ρ S Q I R h => Calls.spliced_nil ⟨[], H, [], S, I, .nil, rfl, R, Step.refl _ _, h⟩⟩
theorem da_cons (ha : DE G X S0 e ta) (hr : DA G X S0 es t) (hs : starEach (e :: es) X.env = (false, eval e X.env) :: starEach es X.env) : DA G X S0 (e :: es) (fun ρ S Q => ta ρ S fun x S1 => t ρ S1 fun xs S2 => Q (x :: xs) S2) := by
  refine ⟨fun pos pins s σ H ρ S Q I R h => ?_⟩
  rw [hs]
  show wpAny _ _ (spliced ((false, eval e X.env) :: backTo pos (starEach es X.env))) _ _ s
  refine Calls.spliced_cons (thn (ha.run pins s σ H ρ S _ I R h) fun u s1 ⟨x, H1, d1, S1, I1, r1, h1, R1, t1, q1⟩ => ?_)
  exact thn (hr.run pos pins s1 σ H1 ρ S1 _ I1 R1 q1) fun us s2 ⟨xs, H2, ds, S2, I2, r2, h2, R2, t2, q2⟩ => ⟨x :: xs, H2, d1 :: ds, S2, I2, .cons r1 r2, Dats.cons (Dat.mono t2.k _ _ h1) h2, R2, t1.trans t2, q2⟩
theorem de_tup {k : Nat} (h : DA G X S0 es t) : DE G X S0 (.Tuple es k pos) (fun ρ S Q => t ρ S fun xs S1 => xs.length ≤ sizeLine ∧ Q (.tup xs) S1) := by
  refine ⟨fun pins s σ H ρ S Q I R hq => ?_⟩
  refine wpAny_Tuple_spliced (thn (h.run pos pins s σ H ρ S _ I R hq) fun us s1 ⟨xs, H1, ds, S1, I1, r, hd, R1, t1, z, q⟩ => ⟨by rw [← r.length, ← hd.length]; exact z, ?_⟩)
  have hf : H1 s1.heap.objs.size = none := I1.hok.fresh (Nat.le_refl _)
  have zz : xs.length ≤ sizeLine := by rw [← hd.length]; exact z
  have I2 : Inv X pins σ (upd H1 s1.heap.objs.size (.tup xs)) { s1 with heap := s1.heap.push { cls := .type "tuple", data := .seq us.toArray } } :=
    I1.laid (t' := s1.toks) (fun b u e => Heap.get?_push_of_some _ e) (Nat.le_refl _) ⟨zz, us, r, ⟨_, Heap.get?_push_size _ rfl, rfl, _, rfl⟩⟩
  exact (of_EP (u := .ref s1.heap.objs.size) ⟨.ref s1.heap.objs.size, _, I2, rfl, HQ.tup R1 hf hd q⟩).after t1
theorem de_lst (h : DA G X S0 es t) : DE G X S0 (.List es pos) (fun ρ S Q => t ρ S fun xs S1 => xs.length ≤ sizeLine ∧ ∀ p, S1.mem p = none → Q (.ref p) (S1.put p (.lst xs))) := by
  refine ⟨fun pins s σ H ρ S Q I R hq => ?_⟩
  refine wpAny_List_spliced (thn (h.run pos pins s σ H ρ S _ I R hq) fun us s1 ⟨xs, H1, ds, S1, I1, r, hd, R1, t1, z, q⟩ => ⟨by rw [← r.length, ← hd.length]; exact z, ?_⟩)
  have hf : H1 s1.heap.objs.size = none := I1.hok.fresh (Nat.le_refl _)
  have zz : xs.length ≤ sizeLine := by rw [← hd.length]; exact z
  have I2 : Inv X pins σ (upd H1 s1.heap.objs.size (.lst xs)) { s1 with heap := s1.heap.push { cls := .type "list", data := .seq us.toArray } } :=
    I1.laid (t' := s1.toks) (fun b u e => Heap.get?_push_of_some _ e) (Nat.le_refl _) ⟨zz, us, 0, r, Heap.get?_push_size _ rfl⟩
  exact (of_EP (u := .ref s1.heap.objs.size) ⟨.ref s1.heap.objs.size, _, I2, rfl, HQ.lst R1 hf hd q⟩).after t1
end
end DL

namespace DL
open PySem PySem.Spec PyProof.Rows L2

/-! ### arguments without a star -/
def isStar : Expr → Bool
  | .Starred _ _ => true
  | _ => false
theorem star_cons {e : Expr} {es : List Expr} {env : Env} (h : isStar e = false) : starEach (e :: es) env = (false, eval e env) :: starEach es env := by
  cases e <;> first | rfl | cases h
theorem star_none {env : Env} : ∀ {es : List Expr}, es.all (fun e => !isStar e) = true → ∀ pos, (backTo pos (starEach es env)).any (·.1) = false
  | [], _, _ => rfl
  | e :: es, h, pos => by
    simp only [List.all_cons, Bool.and_eq_true, Bool.not_eq_true'] at h
    rw [star_cons h.1]
    show (false || (backTo pos (starEach es env)).any (·.1)) = false
    rw [star_none h.2 pos]; rfl
theorem star_len {env : Env} : ∀ {es : List Expr}, es.all (fun e => !isStar e) = true → ∀ pos, (backTo pos (starEach es env)).all (fun x => !x.1) = true
  | [], _, _ => rfl
  | e :: es, h, pos => by
    simp only [List.all_cons, Bool.and_eq_true, Bool.not_eq_true'] at h
    rw [star_cons h.1]
    show (true && (backTo pos (starEach es env)).all (fun x => !x.1)) = true
    rw [star_len h.2 pos]; rfl

/-! ### subscripts, slices -/
def ixS (x i : D) (S : DS) (Q : QE) : Prop := match x, i with
  | .tup ds, .int k => bindO (atI ds k) fun d => Q d S
  | .str z, .int k => z.length ≤ sizeLine ∧ bindO (atI z.cps.toList k) fun c => Q (.str ⟨#[c]⟩) S
  | .ref a, .int k => bindO (lstAt S a) fun ds => bindO (atI ds k) fun d => Q d S
  | _, _ => False
theorem ixS_cases {x i : D} {S : DS} {Q : QE} (h : ixS x i S Q) : (∃ ds k, x = .tup ds ∧ i = .int k ∧ bindO (atI ds k) fun d => Q d S) ∨ (∃ z k, x = .str z ∧ i = .int k ∧ z.length ≤ sizeLine ∧ bindO (atI z.cps.toList k) fun c => Q (.str ⟨#[c]⟩) S) ∨
    ∃ a k, x = .ref a ∧ i = .int k ∧ bindO (lstAt S a) fun ds => bindO (atI ds k) fun d => Q d S := by
  unfold ixS at h
  split at h
  · exact .inl ⟨_, _, rfl, rfl, h⟩
  · exact .inr (.inl ⟨_, _, rfl, rfl, h⟩)
  · exact .inr (.inr ⟨_, _, rfl, rfl, h⟩)
  · exact h.elim
theorem bindO_some {α : Type} {o : Option α} {k : α → Prop} (h : bindO o k) : ∃ a, o = some a ∧ k a := by
  cases o with
  | none => exact h.elim
  | some a => exact ⟨a, rfl, h⟩
theorem Dats.atI {K : PySem.W.Frag} {G : GS} {H : Hp} {ds : List D} {vs : List V} {k : Int} {d : D} (h : Dats K G H ds vs) (e : atI ds k = some d) : ∃ v, L2.atI vs k = some v ∧ Dat K G H d v := by
  have l := h.length
  unfold L2.atI at e ⊢
  rw [← l]
  cases q : ixN ds.length k with
  | none => rw [q] at e; cases e
  | some j => rw [q] at e; exact h.get (i := j) e
def cutD (xs : List D) (lo hi : Option Int) : List D := (xs.drop (HT.sIx xs.length 0 lo)).take (HT.sIx xs.length xs.length hi - HT.sIx xs.length 0 lo)
theorem Dats.cut {K : PySem.W.Frag} {G : GS} {H : Hp} {ds : List D} {vs : List V} (h : Dats K G H ds vs) (lo hi : Option Int) : Dats K G H (cutD ds lo hi) (cutV vs lo hi) := by
  unfold cutD cutV
  rw [← h.length]
  exact (h.drop _).take _
def slS (x : D) (lo hi : Option Int) (S : DS) (Q : QE) : Prop := match x with
  | .tup ds => Q (.tup (cutD ds lo hi)) S
  | .str z => z.length ≤ sizeLine ∧ Q (.str (cutS z lo hi)) S
  | .ref a => bindO (lstAt S a) fun ds => ∀ p, S.mem p = none → Q (.ref p) (S.put p (.lst (cutD ds lo hi)))
  | _ => False
theorem slS_cases {x : D} {lo hi : Option Int} {S : DS} {Q : QE} (h : slS x lo hi S Q) : (∃ ds, x = .tup ds ∧ Q (.tup (cutD ds lo hi)) S) ∨ (∃ z, x = .str z ∧ z.length ≤ sizeLine ∧ Q (.str (cutS z lo hi)) S) ∨
    ∃ a, x = .ref a ∧ bindO (lstAt S a) fun ds => ∀ p, S.mem p = none → Q (.ref p) (S.put p (.lst (cutD ds lo hi))) := by
  unfold slS at h
  split at h
  · exact .inl ⟨_, rfl, h⟩
  · exact .inr (.inl ⟨_, rfl, h⟩)
  · exact .inr (.inr ⟨_, rfl, h⟩)
  · exact h.elim
abbrev DTO := Rho → DS → (Option Int → DS → Prop) → Prop
def partS (x : D) (S : DS) (Q : Option Int → DS → Prop) : Prop := match x with
  | .int i => Q (some i) S
  | _ => False
structure DPo (G : GS) (X : Cx) (S0 : DS) (e : Option Expr) (t : DTO) : Prop where
  run : ∀ (pins : List (Addr × Obj)) (s : Shared) (σ : L2.St) (H : Hp) (ρ : Rho) (S : DS) (Q : Option Int → DS → Prop), Inv X pins σ H s → Rep G X S0 σ H ρ S → t ρ S Q →
    wpAny (model X.prog X.w) X.A (evalPart e X.env) (fun u s' => ∃ o H' S', Inv X pins σ H' s' ∧ IsPart u o ∧ Rep G X S0 σ H' ρ S' ∧ Step H S H' S' ∧ Q o S') X.xe s
section
variable {G : GS} {X : Cx} {S0 : DS} {e a b c : Expr} {es : List Expr} {ta tb tc : DT} {t : DTA} {pos : Pos}
theorem de_ix (ha : DE G X S0 a ta) (hb : DE G X S0 b tb) (hs : PlainIx b) : DE G X S0 (.Subscript a b pos) (fun ρ S Q => ta ρ S fun x S1 => tb ρ S1 fun y S2 => ixS x y S2 Q) := by
  refine ⟨fun pins s σ H ρ S Q I R h => ?_⟩
  refine Subscript_ (thn (ha.run pins s σ H ρ S _ I R h) fun v s1 ⟨x, H1, d1, S1, I1, r1, h1, R1, t1, q1⟩ => ?_)
  refine thn (hb.run pins s1 σ H1 ρ S1 _ I1 R1 q1) fun u s2 ⟨y, H2, d2, S2, I2, r2, h2, R2, t2, q2⟩ => ?_
  have h1' := Dat.mono t2.k _ _ h1
  have fin : ∀ z, z = HQ G X S0 σ ρ H2 S2 Q → wpAny (model X.prog X.w) X.A (subscriptTail a b v u) (EP X pins σ z) X.xe s2 → wpAny (model X.prog X.w) X.A (subscriptTail a b v u) (DP G X S0 pins σ ρ H S Q) X.xe s2 := fun z e w => by
    subst e
    exact thn w fun _ _ q => (of_EP q).after (t1.trans t2)
  rcases ixS_cases q2 with ⟨ds, k, rfl, rfl, q2⟩ | ⟨z, k, rfl, rfl, hz, q2⟩ | ⟨p, k, rfl, rfl, q2⟩
  · obtain ⟨d, e, q⟩ := bindO_some q2
    unfold Dat at h1'
    obtain ⟨p, vs, rfl, hp, hd⟩ := h1'
    obtain ⟨w, ew, hw⟩ := hd.atI e
    exact fin _ rfl (ix_tup a b pins s2 σ H2 _ y v u _ I2 r1 r2 ⟨p, vs, _, w, rfl, h2, hp, ew, HQ.same R2 hw q⟩ (hs _ _))
  · obtain ⟨c, e, q⟩ := bindO_some q2
    exact fin _ rfl (ix_str a b pins s2 σ H2 x y v u _ I2 r1 r2 ⟨z, k, c, h1', h2, hz, e, HQ.same (d := .str ⟨#[c]⟩) R2 rfl q⟩ (hs _ _))
  · obtain ⟨ds, e, q2⟩ := bindO_some q2
    obtain ⟨d, e2, q⟩ := bindO_some q2
    obtain ⟨vs, hp, hd⟩ := lstAt_sq (K := X.K) R2 e
    obtain ⟨w, ew, hw⟩ := hd.atI e2
    exact fin _ rfl (ix_list a b pins s2 σ H2 _ y v u _ I2 r1 r2 ⟨p, vs, _, w, h1', h2, hp, ew, HQ.same R2 hw q⟩ (hs _ _))
theorem dpo_none : DPo G X S0 none (fun _ S Q => Q none S) := by
  refine ⟨fun pins s σ H ρ S Q I R h => ?_⟩
  rw [evalPart_none]
  exact wpAny_pure ⟨none, H, S, I, .none, R, Step.refl _ _, h⟩
theorem dpo_some (h : DE G X S0 e ta) : DPo G X S0 (some e) (fun ρ S Q => ta ρ S fun x S1 => partS x S1 Q) := by
  refine ⟨fun pins s σ H ρ S Q I R hw => ?_⟩
  rw [evalPart_some]
  refine thn (h.run pins s σ H ρ S _ I R hw) fun u s1 ⟨x, H1, d1, S1, I1, r1, h1, R1, t1, q1⟩ => ?_
  cases d1 with
  | int i =>
    cases (show x = .int i from h1)
    obtain ⟨t, rfl⟩ := r1
    exact ⟨some i, H1, S1, I1, .int i t, R1, t1, q1⟩
  | _ => exact (show False from q1).elim
variable {lo hi : Option Expr} {tl th : DTO} {p2 : Pos}
theorem de_slice (he : DE G X S0 e ta) (hl : DPo G X S0 lo tl) (hu : DPo G X S0 hi th) : DE G X S0 (.Subscript e (.Slice lo hi none p2) pos) (fun ρ S Q => ta ρ S fun x S1 => tl ρ S1 fun l S2 => th ρ S2 fun u S3 => slS x l u S3 Q) := by
  refine ⟨fun pins s σ H ρ S Q I R h => ?_⟩
  refine Subscript_ (thn (he.run pins s σ H ρ S _ I R h) fun v s1 ⟨x, H1, d1, S1, I1, r1, h1, R1, t1, q1⟩ => ?_)
  refine wpAny_Slice (thn (hl.run pins s1 σ H1 ρ S1 _ I1 R1 q1) fun vl s2 ⟨l, H2, S2, I2, pl, R2, t2, q2⟩ => thn (hu.run pins s2 σ H2 ρ S2 _ I2 R2 q2) fun vu s3 ⟨u, H3, S3, I3, pu, R3, t3, q3⟩ => ?_)
  rw [evalPart_none]
  refine wpAny_pure ?_
  have I4 : Inv X pins σ H3 { s3 with heap := s3.heap.push { cls := .type "slice", data := .fields #[vl, vu, .none] } } := I3.kept (t' := s3.toks) fun b ob q => Heap.get?_push_of_some _ q
  have h1' := Dat.mono (t2.k.trans t3.k) _ _ h1
  have go : ∀ {r : V → Option Int → Option Int → Hp → VK → Prop}, SlR X r → r x l u H3 (HQ G X S0 σ ρ H3 S3 Q) →
      wpAny (model X.prog X.w) X.A (subscriptTail e (.Slice lo hi none p2) v (.ref s3.heap.objs.size)) (DP G X S0 pins σ ρ H S Q) X.xe { s3 with heap := s3.heap.push { cls := .type "slice", data := .fields #[vl, vu, .none] } } := fun {r} hr q => by
    obtain ⟨T, id, hT, ht, hg⟩ := hr pins { s3 with heap := s3.heap.push { cls := .type "slice", data := .fields #[vl, vu, .none] } } σ H3 x v vl vu l u s3.heap.objs.size _ I4 r1 (Heap.IsSliceOf.new ..) pl pu q
    exact thn (tail_any (ops := [.ref s3.heap.objs.size, v]) ht hT hg (by with_unfolding_all rfl)) fun _ _ z => (of_EP z).after ((t1.trans t2).trans t3)
  show wpAny _ _ (subscriptTail e (.Slice lo hi none p2) v (.ref s3.heap.objs.size)) _ _ _
  rcases slS_cases q3 with ⟨ds, rfl, q3⟩ | ⟨z, rfl, hz, q3⟩ | ⟨p, rfl, q3⟩
  · have h1'' := h1'
    unfold Dat at h1'
    obtain ⟨p, vs, rfl, hp, hd⟩ := h1'
    refine go sl_tupA ⟨p, vs, rfl, hp, fun w => ?_, fun _ p' hp' => HQ.tup R3 hp' (hd.cut l u) q3⟩
    have e1 : cutD ds l u = ds := by
      unfold cutD
      rw [hd.length, w.1, w.2, List.drop_zero, Nat.sub_zero, ← hd.length, List.take_length]
    replace q3 : Q (.tup (cutD ds l u)) S3 := q3
    rw [e1] at q3
    exact HQ.same R3 h1'' q3
  · exact go sl_str ⟨z, h1', hz, HQ.same (d := .str _) R3 rfl q3⟩
  · obtain ⟨ds, e1, q⟩ := bindO_some q3
    obtain ⟨vs, hp, hd⟩ := lstAt_sq (K := X.K) R3 e1
    exact go sl_list ⟨p, vs, h1', hp, fun p' hp' => HQ.lst R3 hp' (hd.cut l u) q⟩

/-! ### chains of comparisons -/
theorem lastMarks_false : ∀ {ops : List CmpOp} {es : List Expr}, ops.all (fun o => o != .In && o != .NotIn) = true → lastMarks ops es = false
  | [], es, _ => by cases es <;> rfl
  | [o], [], _ => rfl
  | [o], [e], h => by
    simp only [List.all_cons, List.all_nil, Bool.and_true, Bool.and_eq_true, bne_iff_ne] at h
    exact nobehind e h.1 h.2
  | [o], e :: f :: r, h => by
    show lastMarks [] (f :: r) = false
    rfl
  | o :: p :: ops, [], _ => rfl
  | o :: p :: ops, e :: r, h => by
    simp only [List.all_cons, Bool.and_eq_true] at h
    show lastMarks (p :: ops) r = false
    exact lastMarks_false (by simp only [List.all_cons, Bool.and_eq_true]; exact h.2)
/-- the rest of a chain, behind a value -/
structure DCh (G : GS) (X : Cx) (S0 : DS) (ops : List CmpOp) (es : List Expr) (t : D → DT) : Prop where
  run : ∀ (pos : Pos) (pins : List (Addr × Obj)) (s : Shared) (σ : L2.St) (H : Hp) (ρ : Rho) (S : DS) (x : V) (v : Value) (d : D) (Q : QE), Inv X pins σ H s → Rep G X S0 σ H ρ S → RelV x v → Dat X.K G H d x → t d ρ S Q →
    wpAny (model X.prog X.w) X.A (compareChain pos v ops (evalEach es X.env)) (DP G X S0 pins σ ρ H S Q) X.xe s
  test : ∀ (pos : Pos) (pins : List (Addr × Obj)) (s : Shared) (σ : L2.St) (H : Hp) (ρ : Rho) (S : DS) (x : V) (v : Value) (d : D) (Q : Bool → DS → Prop), Inv X pins σ H s → Rep G X S0 σ H ρ S → RelV x v → Dat X.K G H d x →
    t d ρ S (fun k S' => bindO (match k with | .bl k => some k | _ => none) fun k => Q k S') →
    wpAny (model X.prog X.w) X.A (testChain pos v ops (evalEach es X.env)) (TPD G X S0 pins σ ρ H S Q) X.xe s
theorem dch_last {op : CmpOp} (hu : X.A.units + 65 < cLine) (hb : DE G X S0 b tb) : DCh G X S0 [op] [b] (fun x ρ S Q => tb ρ S fun y S2 => cmpS op x y S2 fun k => Q (.bl k) S2) := by
  refine ⟨fun pos pins s σ H ρ S x v d Q I R r1 h1 q => chain_last ?_, fun pos pins s σ H ρ S x v d Q I R r1 h1 q => test_last ?_⟩
  · refine thn (hb.run pins s σ H ρ S _ I R q) fun u s2 ⟨y, H2, d2, S2, I2, r2, h2, R2, t2, q2⟩ => ?_
    exact thn (opd_cmp hu op pins s2 σ H2 ρ S2 x y v u d d2 Q I2 R2 r1 r2 (Dat.mono t2.k _ _ h1) h2 q2) fun _ _ z => z.after t2
  · refine thn (hb.run pins s σ H ρ S _ I R q) fun u s2 ⟨y, H2, d2, S2, I2, r2, h2, R2, t2, q2⟩ => ?_
    exact thn (opd_cmp hu op pins s2 σ H2 ρ S2 x y v u d d2 (fun d S' => bindO (match d with | .bl k => some k | _ => none) fun k => Q k S') I2 R2 r1 r2 (Dat.mono t2.k _ _ h1) h2 q2) fun _ _ z => tru_bl (z.after t2)
theorem dch_link {op op' : CmpOp} {ops : List CmpOp} {t : D → DT} (hu : X.A.units + 65 < cLine) (hb : DE G X S0 b tb) (hr : DCh G X S0 (op' :: ops) (c :: es) t) :
    DCh G X S0 (op :: op' :: ops) (b :: c :: es) (fun x ρ S Q => tb ρ S fun y S2 => cmpS op x y S2 fun k => if k = true then t y ρ S2 Q else Q (.bl false) S2) := by
  refine ⟨fun pos pins s σ H ρ S x v d Q I R r1 h1 q => chain_link ?_, fun pos pins s σ H ρ S x v d Q I R r1 h1 q => test_link ?_⟩
  · refine thn (hb.run pins s σ H ρ S _ I R q) fun u s2 ⟨y, H2, d2, S2, I2, r2, h2, R2, t2, q2⟩ => ?_
    refine thn (opd_cmp hu op pins s2 σ H2 ρ S2 x y v u d d2 (fun z S3 => ∃ k, z = .bl k ∧ S3 = S2 ∧ if k = true then t d2 ρ S2 Q else Q (.bl false) S2) I2 R2 r1 r2 (Dat.mono t2.k _ _ h1) h2 ?_) fun cv s3 ⟨z, H3, d3, S3, I3, r3, h3, R3, t3, k, e1, e2, q3⟩ => ?_
    · unfold cmpV
      exact cmpS_imp q2 fun k hk => ⟨k, rfl, rfl, hk⟩
    · subst e1 e2
      cases (show z = .bl k from h3)
      cases r3
      refine wpAny_truthy_bool ?_
      cases k with
      | false => exact ite_ff ⟨.bl false, H3, .bl false, _, I3, rfl, rfl, R3, t2.trans t3, q3⟩
      | true => exact ite_tt (thn (hr.run pos pins s3 σ H3 ρ _ y u d2 Q I3 R3 r2 (Dat.mono t3.k _ _ h2) q3) fun _ _ z => z.after (t2.trans t3))
  · refine thn (hb.run pins s σ H ρ S _ I R q) fun u s2 ⟨y, H2, d2, S2, I2, r2, h2, R2, t2, q2⟩ => ?_
    refine thn (opd_cmp hu op pins s2 σ H2 ρ S2 x y v u d d2 (fun z S3 => ∃ k, z = .bl k ∧ S3 = S2 ∧ if k = true then t d2 ρ S2 (fun k S' => bindO (match k with | .bl k => some k | _ => none) fun k => Q k S') else Q false S2) I2 R2 r1 r2 (Dat.mono t2.k _ _ h1) h2 ?_) fun cv s3 ⟨z, H3, d3, S3, I3, r3, h3, R3, t3, k, e1, e2, q3⟩ => ?_
    · unfold cmpV
      exact cmpS_imp q2 fun k hk => ⟨k, rfl, rfl, hk⟩
    · subst e1 e2
      cases (show z = .bl k from h3)
      cases r3
      refine wpAny_truthy_bool ?_
      cases k with
      | false => exact ite_ff ⟨H3, _, I3, R3, t2.trans t3, q3⟩
      | true => exact ite_tt (thn (hr.test pos pins s3 σ H3 ρ _ y u d2 Q I3 R3 r2 (Dat.mono t3.k _ _ h2) q3) fun _ _ z => z.after (t2.trans t3))
theorem de_chain {op op' : CmpOp} {ops : List CmpOp} {t : D → DT} (ha : DE G X S0 a ta) (hr : DCh G X S0 (op :: op' :: ops) (b :: c :: es) t) (hm : lastMarks (op :: op' :: ops) (b :: c :: es) = false) :
    DE G X S0 (.Compare a (op :: op' :: ops) (b :: c :: es) pos) (fun ρ S Q => ta ρ S fun x S1 => t x ρ S1 Q) := by
  refine ⟨fun pins s σ H ρ S Q I R h => ?_⟩
  refine Compare_chain (thn (ha.run pins s σ H ρ S _ I R h) fun v s1 ⟨x, H1, d1, S1, I1, r1, h1, R1, t1, q1⟩ => ?_) hm
  exact thn (hr.run pos pins s1 σ H1 ρ S1 x v d1 Q I1 R1 r1 h1 q1) fun _ _ z => z.after t1
theorem dt_chain {op op' : CmpOp} {ops : List CmpOp} {t : D → DT} (ha : DE G X S0 a ta) (hr : DCh G X S0 (op :: op' :: ops) (b :: c :: es) t) (hm : lastMarks (op :: op' :: ops) (b :: c :: es) = false) :
    DTe G X S0 (.Compare a (op :: op' :: ops) (b :: c :: es) pos) (fun ρ S Q => ta ρ S fun x S1 => t x ρ S1 (fun k S' => bindO (match k with | .bl k => some k | _ => none) fun k => Q k S')) := by
  refine ⟨fun pins s σ H ρ S Q I R h => ?_⟩
  refine isTrue_chain (thn (ha.run pins s σ H ρ S _ I R h) fun v s1 ⟨x, H1, d1, S1, I1, r1, h1, R1, t1, q1⟩ => ?_) hm
  exact thn (hr.test pos pins s1 σ H1 ρ S1 x v d1 Q I1 R1 r1 h1 q1) fun _ _ z => z.after t1
end
end DL

namespace DL
open PySem PySem.Spec PyProof.Rows L2

/-! ### built-ins called by name -/
abbrev RC := List D → DS → QE → Prop
def CallD (G : GS) (X : Cx) (S0 : DS) (f : Value) (r : RC) : Prop :=
  ∀ (pins : List (Addr × Obj)) (s : Shared) (σ : L2.St) (H : Hp) (ρ : Rho) (S : DS) (vs : List V) (us : List Value) (ds : List D) (Q : QE), Inv X pins σ H s → Rep G X S0 σ H ρ S → Vals vs us → Dats X.K G H ds vs → r ds S Q →
    wpAny (model X.prog X.w) X.A (call f us) (DP G X S0 pins σ ρ H S Q) X.xe s
theorem CallD.of {G : GS} {X : Cx} {S0 : DS} {f : Value} {r : List V → Hp → VK → Prop} {rd : RC} (h : CallR X f r)
    (c : ∀ (σ : L2.St) (H : Hp) (ρ : Rho) (S : DS) (vs : List V) (ds : List D) (Q : QE), Rep G X S0 σ H ρ S → Dats X.K G H ds vs → rd ds S Q → r vs H (HQ G X S0 σ ρ H S Q)) : CallD G X S0 f rd :=
  fun pins s σ H ρ S vs us ds Q I R rv hd q => thn (h pins s σ H vs us _ I rv (c σ H ρ S vs ds Q R hd q)) fun _ _ => of_EP
theorem CallD.imp {G : GS} {X : Cx} {S0 : DS} {f : Value} {r r' : RC} (h : CallD G X S0 f r) (c : ∀ ds S Q, r' ds S Q → r ds S Q) : CallD G X S0 f r' :=
  fun pins s σ H ρ S vs us ds Q I R rv hd q => h pins s σ H ρ S vs us ds Q I R rv hd (c _ _ _ q)
/-! ### methods of built-in types -/
abbrev RM := D → List D → DS → QE → Prop
def MtD (G : GS) (X : Cx) (S0 : DS) (id : String) (r : RM) : Prop :=
  ∀ (pins : List (Addr × Obj)) (s : Shared) (σ : L2.St) (H : Hp) (ρ : Rho) (S : DS) (x : V) (v : Value) (d : D) (vs : List V) (us : List Value) (ds : List D) (Q : QE), Inv X pins σ H s → Rep G X S0 σ H ρ S → RelV x v → Dat X.K G H d x → Vals vs us → Dats X.K G H ds vs → r d ds S Q →
    wpAny (model X.prog X.w) X.A (call (.builtin id) (v :: us)) (DP G X S0 pins σ ρ H S Q) X.xe s
theorem MtD.of {G : GS} {X : Cx} {S0 : DS} {id : String} {r : V → List V → Hp → VK → Prop} {rd : RM} (h : MtR X id r)
    (c : ∀ (σ : L2.St) (H : Hp) (ρ : Rho) (S : DS) (x : V) (d : D) (vs : List V) (ds : List D) (Q : QE), Rep G X S0 σ H ρ S → Dat X.K G H d x → Dats X.K G H ds vs → rd d ds S Q → r x vs H (HQ G X S0 σ ρ H S Q)) : MtD G X S0 id rd :=
  fun pins s σ H ρ S x v d vs us ds Q I R rx hx rv hd q => thn (h pins s σ H x vs v us _ I rx rv (c σ H ρ S x d vs ds Q R hx hd q)) fun _ _ => of_EP
def tyD (T : String) (d : D) (S : DS) : Prop := match d with
  | .str _ => T = "str"
  | .int _ => T = "int"
  | .ref a => (T = "list" ∧ ∃ ds, lstAt S a = some ds) ∨ (T = "dict" ∧ ∃ kvs, S.mem a = some (.dk kvs))
  | _ => False
section
variable {G : GS} {X : Cx} {S0 : DS} {e a b c o : Expr} {es : List Expr} {ta tb tc to : DT} {t : DTA} {pos p apos cpos : Pos} {x name : Str} {id T : String} {r : RC} {rm : RM}
theorem tyD_is {pins : List (Addr × Obj)} {σ : L2.St} {H : Hp} {ρ : Rho} {S : DS} {s : Shared} {T : String} {x : V} {v : Value} {d : D} (I : Inv X pins σ H s) (R : Rep G X S0 σ H ρ S) (r : RelV x v) (h : Dat X.K G H d x) (ty : tyD T d S) :
    s.TypeIs v T ∧ ∀ a, v = .ref a → ∃ ob, s.heap.get? a = some ob ∧ ob.dict = none := by
  cases d with
  | str z => exact tyV_is I r (by cases (show x = .str z from h); exact ty)
  | int z => exact tyV_is I r (by cases (show x = .int z from h); exact ty)
  | ref a =>
    cases (show x = .ref a from h)
    rcases ty with ⟨e, ds, q⟩ | ⟨e, kvs, q⟩
    · obtain ⟨vs, hs, _⟩ := lstAt_sq (K := X.K) R q
      exact tyV_is I r (.inl ⟨e, vs, hs⟩)
    · obtain ⟨kws, hs, _⟩ := R.mem a _ q
      exact tyV_is I r (.inr (.inr (.inl ⟨e, .inl ⟨kws, hs⟩⟩)))
  | _ => exact False.elim ty
theorem de_callB (hc : CallD G X S0 (.builtin id) r) (hg : Gl X x) (hm : X.mg x = none) (hv : bootBuiltins x = some (.builtin id)) (ha : DA G X S0 (e :: es) t) (hn : x ≠ "__name__") (hdb : (x == ("__debug__" : Str)) = false) (hs : (e :: es).all (fun e => !isStar e) = true) :
    DE G X S0 (.Call (.Name x p) (e :: es) [] pos) (fun ρ S Q => t ρ S fun ds S1 => r ds S1 Q) := by
  refine ⟨fun pins s σ H ρ S Q I R h => ?_⟩
  simp only [List.all_cons, Bool.and_eq_true, Bool.not_eq_true'] at hs
  refine wpAny_Call_Name_kw (ld_blt I hg hm hv ?_ hn hdb)
  exact PyProof.Rows.callWith_builtin1 (thn (ha.run pos pins s σ H ρ S _ I R h) fun us s1 ⟨vs, H1, ds, S1, I1, r1, h1, R1, t1, q1⟩ => thn (hc pins s1 σ H1 ρ S1 vs us ds Q I1 R1 r1 h1 q1) fun _ _ z => z.after t1) (star_cons hs.1) (star_none hs.2 pos)
theorem de_callTy (hc : CallD G X S0 (.type T) r) (hg : Gl X x) (hm : X.mg x = none) (hv : bootBuiltins x = some (.type T)) (ha : DA G X S0 (e :: es) t) (hn : x ≠ "__name__") (hdb : (x == ("__debug__" : Str)) = false) (hs : (e :: es).all (fun e => !isStar e) = true) :
    DE G X S0 (.Call (.Name x p) (e :: es) [] pos) (fun ρ S Q => t ρ S fun ds S1 => r ds S1 Q) := by
  refine ⟨fun pins s σ H ρ S Q I R h => ?_⟩
  simp only [List.all_cons, Bool.and_eq_true, Bool.not_eq_true'] at hs
  refine wpAny_Call_Name_kw (ld_blt I hg hm hv ?_ hn hdb)
  exact PyProof.Rows.callWith_type1 (thn (ha.run pos pins s σ H ρ S _ I R h) fun us s1 ⟨vs, H1, ds, S1, I1, r1, h1, R1, t1, q1⟩ => thn (hc pins s1 σ H1 ρ S1 vs us ds Q I1 R1 r1 h1 q1) fun _ _ z => z.after t1) (star_cons hs.1) (star_none hs.2 pos)
theorem de_meth0 (pa : PlainAttrs T) (slot : Slot T name id) (hty : typeOf (.builtin id) = pure (.type "method_descriptor")) (hm : MtD G X S0 id rm) (ho : DE G X S0 o to)
    (hbase : attributeBase o name X.env (eval o X.env) = eval o X.env) (hline : (apos.endLine == cpos.line) = true) : DE G X S0 (.Call (.Attribute o name apos) [] [] cpos) (fun ρ S Q => to ρ S fun d S1 => tyD T d S1 ∧ rm d [] S1 Q) := by
  refine ⟨fun pins s σ H ρ S Q I R h => ?_⟩
  refine wpAny_Call_method0_late hbase hline (thn (ho.run pins s σ H ρ S _ I R h) fun v s1 ⟨x, H1, d1, S1, I1, r1, h1, R1, t1, ty, q1⟩ => ?_)
  obtain ⟨k1, k2⟩ := tyD_is I1 R1 r1 h1 ty
  exact ⟨T, id, pa, slot, hty, k1, k2, Calls.callWith_builtin rfl (PySem.evalArgs_none (thn (hm pins s1 σ H1 ρ S1 x v d1 [] [] [] Q I1 R1 r1 h1 .nil rfl q1) fun _ _ z => z.after t1))⟩
theorem de_meth (pa : PlainAttrs T) (slot : Slot T name id) (hty : typeOf (.builtin id) = pure (.type "method_descriptor")) (hm : MtD G X S0 id rm) (ho : DE G X S0 o to) (ha : DA G X S0 (e :: es) t)
    (hbase : attributeBase o name X.env (eval o X.env) = eval o X.env) (hline : (apos.endLine == cpos.line) = true) (hs : (e :: es).all (fun e => !isStar e) = true) (hlen : (e :: es).length < 20) :
    DE G X S0 (.Call (.Attribute o name apos) (e :: es) [] cpos) (fun ρ S Q => to ρ S fun d S1 => tyD T d S1 ∧ t ρ S1 fun ds S2 => rm d ds S2 Q) := by
  refine ⟨fun pins s σ H ρ S Q I R h => ?_⟩
  have hs' := hs
  simp only [List.all_cons, Bool.and_eq_true, Bool.not_eq_true'] at hs
  refine wpAny_Call_method_late hbase ?_ hline rfl (thn (ho.run pins s σ H ρ S _ I R h) fun v s1 ⟨x, H1, d1, S1, I1, r1, h1, R1, t1, ty, q1⟩ => ?_)
  · rw [star_len hs' cpos]
    have : decide ((e :: es).length + ([] : List Keyword).length + (if ([] : List Keyword).isEmpty then 0 else 1) < 30) = true := by
      simp only [List.length_nil, List.isEmpty_nil, if_true]
      exact decide_eq_true (by omega)
    rw [this]; rfl
  obtain ⟨k1, k2⟩ := tyD_is I1 R1 r1 h1 ty
  refine ⟨T, id, pa, slot, hty, k1, k2, ?_⟩
  have hA := ha.run cpos pins s1 σ H1 ρ S1 _ I1 R1 q1
  rw [star_cons hs.1] at hA ⊢
  refine Calls.callWith_builtin (by show (false || (backTo cpos (starEach es X.env)).any (·.1)) = false; rw [star_none hs.2 cpos]; rfl) (Calls.evalArgs_plain ?_)
  exact thn hA fun us s2 ⟨vs, H2, ds, S2, I2, r2, h2, R2, t2, q2⟩ => thn (hm pins s2 σ H2 ρ S2 x v d1 vs us ds Q I2 R2 r1 (Dat.mono t2.k _ _ h1) r2 h2 q2) fun _ _ z => z.after (t1.trans t2)
end

/-! ### defs -/
structure RoomD (k : Nat) (A : Around) : Prop where
  room : Room k A
  gd : A.guards = some []
theorem RoomD.mono {j k : Nat} {A : Around} (r : RoomD k A) (h : j ≤ k) : RoomD j A := ⟨r.room.mono h, r.gd⟩
theorem RoomD.deeper {k : Nat} {A : Around} (r : RoomD (k + 1) A) (env : Env) : RoomD k (A.deeper env) := ⟨r.room.deeper env, r.gd⟩
/-- what is told of the store -/
def MemR (K : PySem.W.Frag) (G : GS) (H : Hp) (S : DS) : Prop := ∀ a o, S.mem a = some o → MOk K G H a o
/-- a lambda at a call: what its names hold stands in cells -/
def LamF (K : PySem.W.Frag) (G : GS) (H : Hp) (h : Heap) (f : Addr) (j : Nat) (sn : List D) : Prop :=
  ∃ (ld : LamD) (q : Str) (cs : List (Str × Addr)) (pm ctv : Value) (c' : Addr) (u : HO), G.lams[j]? = some ld ∧
    H f = some (.frz (PySem.W.kla_obj "<lambda>" q ld.args ld.body ld.scope cs pm c' ctv) u) ∧ H c' = some (LamX.CodeO c' q) ∧ (sn.length = ld.caps.length ∧ CsOk cs ld.caps) ∧
    ∀ (i : Nat) (y : Str), ld.caps[i]? = some y → ∃ c d u v, cs.lookup y = some c ∧ sn[i]? = some d ∧ h.IsCell c (some u) ∧ H c = none ∧ RelV v u ∧ Dat K G H d v
structure RepF (K : PySem.W.Frag) (G : GS) (H : Hp) (S : DS) (h : Heap) : Prop where
  mem : MemR K G H S
  lam : ∀ f j sn, S.lam f = some (j, sn) → LamF K G H h f j sn
  tab : LamX.Tabs G.tabs H
/-- a lambda that a callee made is of no use behind it -/
def DS.back (S' S : DS) : DS := { S' with lam := S.lam }
abbrev FC := List D → DS → QE → EX → Prop
def EXK (K : PySem.W.Frag) (G : GS) (H : Hp) (S : DS) (E : EX) : XK := fun cls dd H' => ∃ n a w d S', cls = .ref (G.cl n) ∧ dd = some a ∧ H' a = some (.xd [("value", w)]) ∧ Dat K G H' d w ∧ MemR K G H' S' ∧ LamX.Tabs G.tabs H' ∧ Step H S H' S' ∧ E n d (S'.back S)
def CRD (G : GS) (P : Program) (w : World) (K : PySem.W.Frag) (outer : List Env) (H : Hp) (S : DS) (s : Shared) (Q : QE) (E : EX) (r : Result) (s' : Shared) : Prop := match r with
  | .ok (.ret u) => ∃ v H' d S', s'.os = s.os ∧ AllBare s'.gens ∧ Un (frs outer) [] H H' s.heap s'.heap ∧ HOk P w H' s'.heap ∧ RelV v u ∧ Dat K G H' d v ∧ MemR K G H' S' ∧ LamX.Tabs G.tabs H' ∧ Step H S H' S' ∧ Q d (S'.back S)
  | .ok _ => False
  | .error e => L2.CX P w outer H s (EXK K G H S E) e s'
structure FnD (G : GS) (P : Program) (w : World) (K : PySem.W.Frag) (mg : Str → Option Value) (base : Heap) (k : Nat) (f : Addr) (fd : FuncData) (ps : List Str) (C : FC) : Prop where
  len : ∀ ds S Q E, C ds S Q E → ds.length = ps.length
  run : ∀ (A : Around) (outer : List Env) (s : Shared) (H : Hp) (args : Args) (us : List Value) (vs : List V) (ds : List D) (S : DS) (Q : QE) (E : EX), RoomD k A → Env0 P w K mg base A outer s H → BindsTo s fd args (ps.zip us) → Vals vs us → Dats K G H ds vs → RepF K G H S s.heap → C ds S Q E →
    codeAny (model P w) A (.call (.ref f) args) (CRD G P w K outer H S s Q E) s
theorem FnD.mono {G : GS} {P : Program} {w : World} {K : PySem.W.Frag} {mg : Str → Option Value} {base : Heap} {j k : Nat} {f : Addr} {fd : FuncData} {ps : List Str} {C : FC} (F : FnD G P w K mg base j f fd ps C) (h : j ≤ k) : FnD G P w K mg base k f fd ps C :=
  ⟨F.len, fun A outer s H args us vs ds S Q E hr => F.run A outer s H args us vs ds S Q E (hr.mono h)⟩
theorem FnD.imp {G : GS} {P : Program} {w : World} {K : PySem.W.Frag} {mg : Str → Option Value} {base : Heap} {k : Nat} {f : Addr} {fd : FuncData} {ps : List Str} {C C' : FC} (F : FnD G P w K mg base k f fd ps C) (h : ∀ ds S Q E, C' ds S Q E → C ds S Q E) : FnD G P w K mg base k f fd ps C' :=
  ⟨fun ds S Q E q => F.len ds S Q E (h _ _ _ _ q), fun A outer s H args us vs ds S Q E hr he hb hv hd hR q => F.run A outer s H args us vs ds S Q E hr he hb hv hd hR (h _ _ _ _ q)⟩
/-- what is wanted of an error in this frame's air -/
def WE (G : GS) (X : Cx) (S0 : DS) (E : EX) : WX := fun cls dd _ H => ∃ n a w d S', cls = .ref (G.cl n) ∧ dd = some a ∧ H a = some (.xd [("value", w)]) ∧ Dat X.K G H d w ∧ MemR X.K G H S' ∧ LamX.Tabs G.tabs H ∧ Step X.H_0 S0 H S' ∧ E n d (S'.back S0)
def TakesE (G : GS) (X : Cx) (S0 : DS) (E : EX) : Prop := L2.Takes X (WE G X S0 E)
section
variable {G : GS} {X : Cx} {S0 : DS} {σ : L2.St} {H H' : Hp} {ρ : Rho} {S S' : DS} {s : Shared} {pins : List (Addr × Obj)}
theorem CellAt.now {x : Str} {c : Addr} {d : D} (I : Inv X pins σ H s) (h : CellAt G X σ H x c d) : ∃ u v, s.heap.IsCell c (some u) ∧ H c = none ∧ RelV v u ∧ Dat X.K G H d v := by
  rcases h with ⟨i, v, h1, h2, h3, h4, h5⟩ | ⟨u, v, h1, h2, h3, h4, h5⟩
  · obtain ⟨m, hn, hl⟩ := I.loc
    have vis : Vis X.env.scope x := by rcases h2 with k | k; exact .inr (.inl k); exact .inr (.inr k)
    obtain ⟨u, r, l⟩ := hl i x v h3 h4 vis
    rcases l with ⟨k, _⟩ | ⟨_, c', e, z⟩
    · rcases h2 with k2 | k2 <;> rw [k] at k2 <;> cases k2
    · rw [h1] at e; cases e
      exact ⟨u, v, z, I.freeC x c h1, r, h5⟩
  · obtain ⟨o, ho, hd⟩ := h1
    obtain ⟨sl, e⟩ := I.base.any ho h2 h3
    exact ⟨u, v, ⟨_, e, hd⟩, I.base.free c o ho h2 h3, h4, h5⟩
theorem LamAt.now {f : Addr} {j : Nat} {sn : List D} (I : Inv X pins σ H s) (h : LamAt G X σ H f j sn) : LamF X.K G H s.heap f j sn := by
  obtain ⟨ld, q, cs, pm, ctv, c', u, h1, h2, h3, h4, h5⟩ := h
  refine ⟨ld, q, cs, pm, ctv, c', u, h1, h2, h3, h4, fun i y e => ?_⟩
  obtain ⟨c, d, e1, e2, e3⟩ := h5 i y e
  obtain ⟨u, v, a1, a2, a3, a4⟩ := e3.now I
  exact ⟨c, d, u, v, e1, e2, a1, a2, a3, a4⟩
theorem Rep.repF (I : Inv X pins σ H s) (R : Rep G X S0 σ H ρ S) : RepF X.K G H S s.heap := ⟨R.mem, fun f j sn e => (R.lam f j sn e).now I, R.tab⟩
/-- the frame behind a call -/
theorem Rep.behind (R : Rep G X S0 σ H ρ S) (hm : MemR X.K G H' S') (ht : LamX.Tabs G.tabs H') (st : Step H S H' S') : Rep G X S0 σ H' ρ (S'.back S) ∧ Step H S H' (S'.back S) := by
  have st' : Step H S H' (S'.back S) := ⟨st.kept, st.dom, st.tbl⟩
  refine ⟨⟨R.len, fun i d e => ?_, hm, fun f j sn e => (R.lam f j sn e).mono st.k, ht, R.st.trans st'⟩, st'⟩
  obtain ⟨v, e1, e2⟩ := R.env i d e
  exact ⟨v, e1, Dat.mono st.k _ _ e2⟩
/-- a call's end, in this frame -/
theorem after_call {E : EX} {Q : QE} {u : Value} {s' : Shared} (I : Inv X pins σ H s) (R : Rep G X S0 σ H ρ S) (h : CRD G X.prog X.w X.K X.stack H S s Q E (.ok (.ret u)) s') : DP G X S0 pins σ ρ H S Q u s' := by
  obtain ⟨v, H', d, S', os, bare, un, hok, r, hd, hm, ht, st, q⟩ := h
  obtain ⟨R', st'⟩ := R.behind hm ht st
  obtain ⟨v', H'', I', r', e1, e2⟩ := I.after (Q := fun v2 H2 => v2 = v ∧ H2 = H') (u := u) (s' := s') ⟨v, H', os, bare, un, hok, r, rfl, rfl⟩
  subst e1 e2
  exact ⟨_, _, d, _, I', r', hd, R', st', q⟩
theorem call_err {E E' : EX} {e : Value} {s' : Shared} (tk : TakesE G X S0 E') (hE : ∀ n d S', E n d S' → E' n d (S'.back S0)) (I : Inv X pins σ H s) (R : Rep G X S0 σ H ρ S) (h : L2.CX X.prog X.w X.stack H s (EXK X.K G H S E) e s') : X.xe e s' := by
  refine tk e s' (XE.of_call I (W := WE G X S0 E') (fun cls d H' hq => ?_) h)
  obtain ⟨n, a, w, d, S', e1, e2, e3, e4, e5, e6, e7, e8⟩ := hq
  exact ⟨n, a, w, d, S', e1, e2, e3, e4, e5, e6, R.st.trans e7, by
    have z := hE _ _ _ e8
    exact z⟩
/-- the callee runs -/
theorem run_fnD {E E' : EX} {k : Nat} {f : Addr} {fd : FuncData} {ps : List Str} {C : FC} {args : Args} {us : List Value} {vs : List V} {ds : List D} {Q : QE} (F : FnD G X.prog X.w X.K X.mg X.base k f fd ps C) (hr : RoomD k X.A) (hb : BindsTo s fd args (ps.zip us)) (tk : TakesE G X S0 E')
    (hE : ∀ n d S', E n d S' → E' n d (S'.back S0)) (I : Inv X pins σ H s) (R : Rep G X S0 σ H ρ S) (r : Vals vs us) (hd : Dats X.K G H ds vs) (h : C ds S Q E) : wpAny (model X.prog X.w) X.A (call (.ref f) args.pos args.kw) (DP G X S0 pins σ ρ H S Q) X.xe s := by
  refine wpAny_call (codeAny_mono (F.run X.A X.stack s H args us vs ds S Q E hr I.env0 hb r hd (R.repF I) h) fun r s' hq => ?_)
  cases r with
  | error e => exact call_err tk hE I R hq
  | ok fl =>
    cases fl with
    | ret u => exact after_call I R hq
    | next => exact False.elim hq
    | brk => exact False.elim hq
    | cont => exact False.elim hq
end
end DL

namespace DL
open PySem PySem.Spec PyProof.Rows L2

structure DEnds where
  nx : Rho → DS → Prop
  rt : QE
  bk : Rho → DS → Prop := fun _ _ => False
  ct : Rho → DS → Prop := fun _ _ => False
abbrev DTS := DEnds → Rho → DS → Prop
def SPD (G : GS) (X : Cx) (S0 : DS) (pins : List (Addr × Obj)) (H : Hp) (S : DS) (D : DEnds) (f : Flow) (s' : Shared) : Prop := match f with
  | .next => ∃ σ' H' ρ' S', Inv X pins σ' H' s' ∧ Rep G X S0 σ' H' ρ' S' ∧ Step H S H' S' ∧ D.nx ρ' S'
  | .brk => ∃ σ' H' ρ' S', Inv X pins σ' H' s' ∧ Rep G X S0 σ' H' ρ' S' ∧ Step H S H' S' ∧ D.bk ρ' S'
  | .cont => ∃ σ' H' ρ' S', Inv X pins σ' H' s' ∧ Rep G X S0 σ' H' ρ' S' ∧ Step H S H' S' ∧ D.ct ρ' S'
  | .ret u => ∃ v σ' H' ρ' d S', Inv X pins σ' H' s' ∧ Rep G X S0 σ' H' ρ' S' ∧ Step H S H' S' ∧ RelV v u ∧ Dat X.K G H' d v ∧ D.rt d S'
theorem SPD.after {G : GS} {X : Cx} {S0 : DS} {pins : List (Addr × Obj)} {H H1 : Hp} {S S1 : DS} {D : DEnds} {f : Flow} {s' : Shared} (st : Step H S H1 S1) (h : SPD G X S0 pins H1 S1 D f s') : SPD G X S0 pins H S D f s' := by
  cases f with
  | ret u => obtain ⟨v, σ', H', ρ', d, S', I, R, t, r, hd, q⟩ := h; exact ⟨v, σ', H', ρ', d, S', I, R, st.trans t, r, hd, q⟩
  | next => obtain ⟨σ', H', ρ', S', I, R, t, q⟩ := h; exact ⟨σ', H', ρ', S', I, R, st.trans t, q⟩
  | brk => obtain ⟨σ', H', ρ', S', I, R, t, q⟩ := h; exact ⟨σ', H', ρ', S', I, R, st.trans t, q⟩
  | cont => obtain ⟨σ', H', ρ', S', I, R, t, q⟩ := h; exact ⟨σ', H', ρ', S', I, R, st.trans t, q⟩
structure DSt (G : GS) (X : Cx) (S0 : DS) (st : Stmt) (t : DTS) : Prop where
  run : ∀ (pins : List (Addr × Obj)) (s : Shared) (σ : L2.St) (H : Hp) (ρ : Rho) (S : DS) (D : DEnds), Inv X pins σ H s → Rep G X S0 σ H ρ S → t D ρ S → wpAny (model X.prog X.w) X.A (exec st X.env) (SPD G X S0 pins H S D) X.xe s
structure DSs (G : GS) (X : Cx) (S0 : DS) (sts : List Stmt) (t : DTS) : Prop where
  run : ∀ (pins : List (Addr × Obj)) (s : Shared) (σ : L2.St) (H : Hp) (ρ : Rho) (S : DS) (D : DEnds), Inv X pins σ H s → Rep G X S0 σ H ρ S → t D ρ S → wpAny (model X.prog X.w) X.A (execs sts X.env) (SPD G X S0 pins H S D) X.xe s
abbrev DTGt := D → Rho → DS → (Rho → DS → Prop) → Prop
def GP (G : GS) (X : Cx) (S0 : DS) (pins : List (Addr × Obj)) (H : Hp) (S : DS) (Q : Rho → DS → Prop) (s' : Shared) : Prop := ∃ σ' H' ρ' S', Inv X pins σ' H' s' ∧ Rep G X S0 σ' H' ρ' S' ∧ Step H S H' S' ∧ Q ρ' S'
/-- a target -/
structure DTg (G : GS) (X : Cx) (S0 : DS) (tg : Expr) (g : DTGt) : Prop where
  run : ∀ (pins : List (Addr × Obj)) (s : Shared) (σ : L2.St) (H : Hp) (ρ : Rho) (S : DS) (v : V) (u : Value) (d : D) (Q : Rho → DS → Prop), Inv X pins σ H s → Rep G X S0 σ H ρ S → RelV v u → Dat X.K G H d v → g d ρ S Q →
    wpAny (model X.prog X.w) X.A (assign tg X.env u) (fun _ s' => GP G X S0 pins H S Q s') X.xe s
/-- several targets, one after another -/
structure DTgs (G : GS) (X : Cx) (S0 : DS) (ts : List Expr) (g : List D → Rho → DS → (Rho → DS → Prop) → Prop) : Prop where
  run : ∀ (pins : List (Addr × Obj)) (s : Shared) (σ : L2.St) (H : Hp) (ρ : Rho) (S : DS) (vs : List V) (us : List Value) (ds : List D) (Q : Rho → DS → Prop), Inv X pins σ H s → Rep G X S0 σ H ρ S → Vals vs us → Dats X.K G H ds vs → g ds ρ S Q →
    wpAny (model X.prog X.w) X.A (assignInOrder ((assignEach ts X.env).map (·.2)) us) (fun _ s' => GP G X S0 pins H S Q s') X.xe s

def DS.nolam (S : DS) : DS := { S with lam := fun _ => none }
def capN (G : GS) (x : Str) : Bool := G.lams.any fun l => l.caps.contains x
/-- the store behind a store to the name x: lambdas that look at such a name are forgotten -/
def DS.upto (S : DS) (c : Bool) : DS := if c = true then S.nolam else S
theorem DS.upto_mem {S : DS} {c : Bool} : (S.upto c).mem = S.mem := by
  unfold DS.upto
  split <;> rfl
section
variable {G : GS} {X : Cx} {S0 : DS} {σ : L2.St} {H H' : Hp} {ρ : Rho} {S S' : DS} {s : Shared} {pins : List (Addr × Obj)} {e a b : Expr} {es : List Expr} {te ta tb : DT} {pos : Pos} {x : Str} {i : Nat}
theorem Rep.setVar {c : Bool} {d : D} {v : V} (R : Rep G X S0 σ H ρ S) (hN : X.N.Nodup) (hi : X.N[i]? = some x) (hc : c = capN G x) (hd : Dat X.K G H d v) :
    Rep G X S0 (σ.set i (some v)) H (ρ.set i (some d)) (S.upto c) ∧ Step H S H (S.upto c) := by
  have st : Step H S H (S.upto c) := ⟨fun _ _ h _ _ => h, fun a h => .inl (by rw [DS.upto_mem] at h; exact h), fun _ ps h => ⟨ps, h⟩⟩
  refine ⟨⟨by rw [List.length_set, List.length_set]; exact R.len, fun j dj e => ?_, fun a o e => R.mem a o (by rw [DS.upto_mem] at e; exact e), fun f j sn e => ?_, R.tab, R.st.trans st⟩, st⟩
  · by_cases hij : i = j
    · subst hij
      by_cases hl : i < ρ.length
      · rw [List.getElem?_set_self hl] at e
        cases e
        exact ⟨v, by rw [List.getElem?_set_self (by rw [R.len]; exact hl)], hd⟩
      · rw [List.getElem?_eq_none (by rw [List.length_set]; omega)] at e; cases e
    · rw [List.getElem?_set_ne hij] at e
      obtain ⟨w, e1, e2⟩ := R.env j dj e
      exact ⟨w, by rw [List.getElem?_set_ne hij]; exact e1, e2⟩
  · cases c with
    | true => exact nomatch (show (none : Option (Nat × List D)) = some _ from e)
    | false =>
      obtain ⟨ld, q, cs, pm, ctv, c', u, h1, h2, h3, h4, h5⟩ := R.lam f j sn e
      refine ⟨ld, q, cs, pm, ctv, c', u, h1, h2, h3, h4, fun k y ey => ?_⟩
      obtain ⟨cc, dd, e1, e2, e3⟩ := h5 k y ey
      refine ⟨cc, dd, e1, e2, ?_⟩
      rcases e3 with ⟨i', v', a1, a2, a3, a4, a5⟩ | z
      · refine .inl ⟨i', v', a1, a2, a3, ?_, a5⟩
        have ne : i ≠ i' := fun z => by
          subst z
          rw [hi] at a3; cases a3
          have : capN G x = true := List.any_eq_true.mpr ⟨ld, List.mem_of_getElem? h1, List.contains_iff_mem.mpr (List.mem_of_getElem? ey)⟩
          rw [this] at hc; cases hc
        rw [List.getElem?_set_ne ne]; exact a4
      · exact .inr z
theorem store_okD {M : Model} {A : Around} {E : Value → Shared → Prop} {d : D} {v : V} {u : Value} {Q : Unit → Shared → Prop} (I : Inv X pins σ H s) (R : Rep G X S0 σ H ρ S) (hN : X.N.Nodup) (hi : X.N[i]? = some x) (hx : Loc X.env.scope x) (r : RelV v u) (hd : Dat X.K G H d v)
    (h : ∀ s', Inv X pins (σ.set i (some v)) H s' → Rep G X S0 (σ.set i (some v)) H (ρ.set i (some d)) (S.upto (capN G x)) → Step H S H (S.upto (capN G x)) → Q () s') (hf : X.fn x = true ∨ X.env.scope.names.lookup x = some .local) :
    wpAny M A (storeName X.env x u) Q E s :=
  store_ok I hN hi hx r (fun s' I' => h s' I' (R.setVar hN hi rfl hd).1 (R.setVar hN hi rfl hd).2) hf
theorem dg_name (hN : X.N.Nodup) (hi : X.N[i]? = some x) (hx : Loc X.env.scope x) (hf : X.fn x = true ∨ X.env.scope.names.lookup x = some .local) : DTg G X S0 (.Name x pos) (fun d ρ S Q => Q (ρ.set i (some d)) (S.upto (capN G x))) := by
  refine ⟨fun pins s σ H ρ S v u d Q I R r hd h => ?_⟩
  exact wpAny_assign_Name (store_okD I R hN hi hx r hd (fun s' I' R' st => ⟨_, H, _, _, I', R', st, h⟩) hf)
theorem dgs_nil : DTgs G X S0 [] (fun ds ρ S Q => ds = [] ∧ Q ρ S) := by
  refine ⟨fun pins s σ H ρ S vs us ds Q I R r hd h => ?_⟩
  obtain ⟨e, h⟩ := h
  subst e
  cases (show vs = [] from hd)
  cases r
  exact assignInOrder_nil ⟨σ, H, ρ, S, I, R, Step.refl _ _, h⟩
def consS (g : DTGt) (gs : List D → Rho → DS → (Rho → DS → Prop) → Prop) : List D → Rho → DS → (Rho → DS → Prop) → Prop
  | d :: ds, ρ, S, Q => g d ρ S fun ρ1 S1 => gs ds ρ1 S1 Q
  | [], _, _, _ => False
theorem dgs_cons {g : DTGt} {gs : List D → Rho → DS → (Rho → DS → Prop) → Prop} (h1 : DTg G X S0 e g) (h2 : DTgs G X S0 es gs) (hs : isStar e = false) : DTgs G X S0 (e :: es) (consS g gs) := by
  refine ⟨fun pins s σ H ρ S vs us ds Q I R r hd h => ?_⟩
  cases ds with
  | nil => exact (show False from h).elim
  | cons d ds =>
    obtain ⟨v, vr, rfl, hd1, hd2⟩ := hd.cases1
    cases r with
    | cons r rr =>
      have ea : (assignEach (e :: es) X.env).map (·.2) = assign e X.env :: (assignEach es X.env).map (·.2) := by
        cases e <;> first | rfl | cases hs
      rw [ea]
      refine assignInOrder_cons (thn (h1.run pins s σ H ρ S _ _ d _ I R r hd1 h) fun _ s1 ⟨σ1, H1, ρ1, S1, I1, R1, t1, q1⟩ => ?_)
      exact thn (h2.run pins s1 σ1 H1 ρ1 S1 _ _ ds Q I1 R1 rr (Dats.mono t1.k _ _ hd2) q1) fun _ s2 ⟨σ2, H2, ρ2, S2, I2, R2, t2, q2⟩ => ⟨σ2, H2, ρ2, S2, I2, R2, t1.trans t2, q2⟩
def tupS (n : Nat) (gs : List D → Rho → DS → (Rho → DS → Prop) → Prop) : DTGt := fun d ρ S Q => match d with
  | .tup ds => ds.length = n ∧ gs ds ρ S Q
  | _ => False
theorem assignEach_len : ∀ {es : List Expr} {env : Env}, (assignEach es env).length = es.length
  | [], _ => rfl
  | e :: es, env => by
    have : (assignEach (e :: es) env).length = (assignEach es env).length + 1 := by cases e <;> rfl
    rw [this, assignEach_len]; rfl
theorem assignEach_star : ∀ {es : List Expr} {env : Env}, es.all (fun e => !isStar e) = true → (assignEach es env).findIdx? (·.1) = none
  | [], _, _ => rfl
  | e :: es, env, h => by
    simp only [List.all_cons, Bool.and_eq_true, Bool.not_eq_true'] at h
    have : assignEach (e :: es) env = (false, assign e env) :: assignEach es env := by
      cases e <;> first | rfl | exact nomatch h.1
    rw [this, List.findIdx?_cons, assignEach_star h.2]; rfl
theorem dg_tup {k : Nat} {gs : List D → Rho → DS → (Rho → DS → Prop) → Prop} (hc : X.calm = true) (h : DTgs G X S0 es gs) (hs : es.all (fun e => !isStar e) = true) : DTg G X S0 (.Tuple es k pos) (tupS es.length gs) := by
  refine ⟨fun pins s σ H ρ S v u d Q I R r hd hw => ?_⟩
  cases d with
  | tup ds =>
    obtain ⟨hl, hw⟩ := hw
    unfold Dat at hd
    obtain ⟨p, vs, rfl, hq, hd⟩ := hd
    cases r
    obtain ⟨its, rv, ht, hz⟩ := I.tuple hq
    refine assign_Tuple_tuple (I.ok.hd hc) ht (by rw [assignEach_len, List.size_toArray, ← rv.length, ← hd.length, hl]) (assignEach_star hs) fun h' hx => ?_
    have I1 : Inv X pins σ H { s with heap := h' } := I.kept (t' := s.toks) fun b o e => hx b o (Nat.ne_of_lt (Heap.lt_size e)) e
    exact h.run pins _ σ H ρ S vs _ ds Q I1 R (by simpa using rv) hd hw
  | _ => exact (show False from hw).elim
/-- o[i] = v -/
def setS (o i d : D) (S : DS) (Q : DS → Prop) : Prop := match o, i with
  | .ref a, .int k => ∃ ds, S.mem a = some (.lst ds) ∧ bindO (ixN ds.length k) fun j => Q (S.put a (.lst (ds.set j d)))
  | _, _ => False
theorem dg_sub {o i : Expr} {to ti : DT} (ho : DE G X S0 o to) (hi : DE G X S0 i ti) (hsl : ∀ lo hi st p, i ≠ .Slice lo hi st p) : DTg G X S0 (.Subscript o i pos) (fun d ρ S Q => to ρ S fun o S1 => ti ρ S1 fun i S2 => setS o i d S2 fun S3 => Q ρ S3) := by
  refine ⟨fun pins s σ H ρ S v u d Q I R r hd h => ?_⟩
  have ha : assign (.Subscript o i pos) X.env u = (do
      let ov ← holding [u] (eval o X.env)
      let iv ← holding [u, ov] (eval i X.env)
      standAt pos
      holding [u, ov, iv] (setItem ov iv u)
      release [u, ov, iv] []) := by
    cases i with
    | Slice lo' hi' st' p' => exact absurd rfl (hsl lo' hi' st' p')
    | _ => rfl
  rw [ha]
  refine wpAny_bind (wpAny_holding (thn (ho.run pins s σ H ρ S _ I R h) fun ov s1 ⟨x, H1, d1, S1, I1, r1, h1, R1, t1, q1⟩ => ?_))
  refine wpAny_bind (wpAny_holding (thn (hi.run pins s1 σ H1 ρ S1 _ I1 R1 q1) fun iv s2 ⟨y, H2, d2, S2, I2, r2, h2, R2, t2, q2⟩ => ?_))
  have h1' := Dat.mono t2.k _ _ h1
  have hd' := Dat.mono (t1.k.trans t2.k) _ _ hd
  replace q2 : setS d1 d2 d S2 fun S3 => Q ρ S3 := q2
  unfold setS at q2
  split at q2
  · obtain ⟨ds, e1, q⟩ := q2
    obtain ⟨j, e2, q⟩ := bindO_some q
    obtain ⟨vs, hp, hds⟩ := R2.mem _ _ e1
    cases (show x = _ from h1')
    cases (show y = _ from h2)
    refine wpAny_bind (wpAny_standAt (wpAny_bind (wpAny_holding (thn (set_list pins s2 σ H2 _ _ v ov iv u (fun H3 => H3 = upd H2 _ (.lst (vs.set j v))) I2 r1 r2 r ⟨_, vs, _, j, rfl, rfl, hp, by rw [← hds.length]; exact e2, rfl⟩) fun _ s3 ⟨H3, I3, e3⟩ => ?_))))
    subst e3
    have k : Kept H2 (upd H2 _ (.lst (vs.set j v))) := fun b o im e => by
      rw [upd_ne (fun z => by subst z; rw [hp] at e; cases e; cases im)]; exact e
    obtain ⟨R3, t3⟩ := R2.setM (m := .lst (ds.set j d)) hp rfl rfl (by rw [e1]; simp) ⟨_, upd_same, Dats.set (Dat.mono k _ _ hd') j (Dats.mono k _ _ hds)⟩
    exact wpAny_release ⟨σ, _, ρ, _, I3, R3, (t1.trans t2).trans t3, q⟩
  · exact q2.elim

/-! ### statements -/
theorem dss_nil : DSs G X S0 [] (fun D ρ S => D.nx ρ S) := ⟨fun _ _ σ H ρ S _ I R h => wpAny_execs_nil ⟨σ, H, ρ, S, I, R, Step.refl _ _, h⟩⟩
theorem dss_cons {st : Stmt} {rest : List Stmt} {t u : DTS} (h1 : DSt G X S0 st t) (h2 : DSs G X S0 rest u) : DSs G X S0 (st :: rest) (fun D ρ S => t { D with nx := u D } ρ S) := by
  refine ⟨fun pins s σ H ρ S D I R h => ?_⟩
  refine wpAny_execs_cons (thn (h1.run pins s σ H ρ S { D with nx := u D } I R h) fun f s1 q => ?_)
  cases f with
  | next =>
    obtain ⟨σ', H', ρ', S', I', R', t', q⟩ := q
    exact thn (h2.run pins s1 σ' H' ρ' S' D I' R' q) fun _ _ z => z.after t'
  | ret v => exact q
  | brk => exact q
  | cont => exact q
theorem ds_pass : DSt G X S0 (.Pass pos) (fun D ρ S => D.nx ρ S) := ⟨fun _ _ σ H ρ S _ I R h => wpAny_Pass ⟨σ, H, ρ, S, I, R, Step.refl _ _, h⟩⟩
theorem ds_brk : DSt G X S0 (.Break pos) (fun D ρ S => D.bk ρ S) := ⟨fun _ _ σ H ρ S _ I R h => wpAny_Break ⟨σ, H, ρ, S, I, R, Step.refl _ _, h⟩⟩
theorem ds_cont : DSt G X S0 (.Continue pos) (fun D ρ S => D.ct ρ S) := ⟨fun _ _ σ H ρ S _ I R h => wpAny_Continue ⟨σ, H, ρ, S, I, R, Step.refl _ _, h⟩⟩
def isComp : Expr → Bool
  | .ListComp .. | .SetComp .. | .DictComp .. => true
  | _ => false
theorem swaps_false {e : Expr} {t : Option Expr} {l : Nat} {env : Env} (h : isComp e = false) : swapsWith e t l env = pure false := by
  cases e <;> first | rfl | cases h
theorem ds_expr (he : DE G X S0 e te) (hc : isComp e = false) : DSt G X S0 (.Expr e pos) (fun D ρ S => te ρ S fun _ S1 => D.nx ρ S1) := by
  refine ⟨fun pins s σ H ρ S D I R h => ?_⟩
  exact wpAny_Expr_any (thn (he.run pins s σ H ρ S _ I R h) fun v s1 ⟨x, H1, d1, S1, I1, r1, h1, R1, t1, q1⟩ => ⟨σ, H1, ρ, S1, I1, R1, t1, q1⟩) I.quiet (swaps_false hc)
theorem ds_ret (he : DE G X S0 e te) : DSt G X S0 (.Return (some e) pos) (fun D ρ S => te ρ S D.rt) := by
  refine ⟨fun pins s σ H ρ S D I R h => ?_⟩
  exact wpAny_Return_some (thn (he.run pins s σ H ρ S _ I R h) fun v s1 ⟨x, H1, d1, S1, I1, r1, h1, R1, t1, q1⟩ => ⟨x, σ, H1, ρ, d1, S1, I1, R1, t1, r1, h1, q1⟩)
theorem ds_retN : DSt G X S0 (.Return none pos) (fun D ρ S => D.rt .non S) := ⟨fun _ _ σ H ρ S _ I R h => wpAny_Return_none ⟨.non, σ, H, ρ, .non, S, I, R, Step.refl _ _, rfl, rfl, h⟩⟩
theorem ds_if {c : Expr} {aa bb : List Stmt} {tc : DTT} {t u : DTS} (hc : DTe G X S0 c tc) (ha : DSs G X S0 aa t) (hb : DSs G X S0 bb u) : DSt G X S0 (.If c aa bb pos) (fun D ρ S => tc ρ S fun k S1 => if k = true then t D ρ S1 else u D ρ S1) := by
  refine ⟨fun pins s σ H ρ S D I R h => ?_⟩
  refine wpAny_If (thn (hc.run pins s σ H ρ S _ I R h) fun d s1 ⟨H1, S1, I1, R1, t1, q1⟩ => ?_)
  cases d with
  | true => exact thn (ha.run pins s1 σ H1 ρ S1 D I1 R1 q1) fun _ _ z => z.after t1
  | false => exact thn (hb.run pins s1 σ H1 ρ S1 D I1 R1 q1) fun _ _ z => z.after t1
theorem ds_asg {tg : Expr} {g : DTGt} (he : DE G X S0 e te) (hg : DTg G X S0 tg g) (hs : swapsWithSole [tg] e pos.line X.env = pure false) (hw : swappedStores [tg] e X.env = pure none) (h1 : isStar tg = false) :
    DSt G X S0 (.Assign [tg] e pos) (fun D ρ S => te ρ S fun d S1 => g d ρ S1 D.nx) := by
  refine ⟨fun pins s σ H ρ S D I R h => ?_⟩
  refine wpAny_Assign_stores (thn (he.run pins s σ H ρ S _ I R h) fun v s1 ⟨x, H1, d1, S1, I1, r1, h1', R1, t1, q1⟩ => ?_) hs hw
  have ea : (assignEach [tg] X.env).map (·.2) = [assign tg X.env] := by cases tg <;> first | rfl | cases h1
  rw [ea]
  exact thn (hg.run pins s1 σ H1 ρ S1 x v d1 _ I1 R1 r1 h1' q1) fun _ s2 ⟨σ2, H2, ρ2, S2, I2, R2, t2, q2⟩ => ⟨σ2, H2, ρ2, S2, I2, R2, t1.trans t2, q2⟩
end
end DL

namespace DL
open PySem PySem.Spec PyProof.Rows L2

/-! ### what is walked: ds, while chk holds of the store -/
structure DTurn (G : GS) (P : Program) (w : World) (K : PySem.W.Frag) (tg : Expr) (it : Addr) (fp : List Addr) (tn : Nat → Heap → Prop) (H0 : Hp) (ds : List D) (chk : DS → Prop) : Prop where
  mem : it ∈ fp
  obj : ∀ i h, tn i h → ∀ b ∈ fp, ∃ o, h.get? b = some o ∧ ∀ v, o.data ≠ .cell v
  keep : ∀ i h h', tn i h → (∀ b ∈ fp, ∀ o, h.get? b = some o → h'.get? b = some o) → tn i h'
  item : ∀ (X : Cx), X.prog = P → X.w = w → X.K = K → X.calm = true → ∀ (i : Nat) (d : D) (pins : List (Addr × Obj)) (s : Shared) (σ : L2.St) (H : Hp) (S : DS) (E : Value → Shared → Prop), ds[i]? = some d → Inv X pins σ H s → Kept H0 H → MemR K G H S → chk S → (∀ b ∈ fp, FpOk X pins H b) → tn i s.heap →
    wpAny (model P w) X.A (pyNext (.ref it)) (fun r s1 => ∃ u, r = some u ∧
      wpAny (model P w) X.A (letOwnedTupleGo tg (.ref it) u) (fun _ s2 => ∃ x H', Inv X pins σ H' s2 ∧ RelV x u ∧ Dat K G H' d x ∧ (∀ a o, H a = some o → H' a = some o) ∧ tn (i + 1) s2.heap ∧ ∀ b ∈ fp, H' b = none) E s1) E s
  done : ∀ (X : Cx), X.prog = P → X.w = w → X.K = K → X.calm = true → ∀ (pins : List (Addr × Obj)) (s : Shared) (σ : L2.St) (H : Hp) (S : DS) (E : Value → Shared → Prop), Inv X pins σ H s → Kept H0 H → MemR K G H S → chk S → (∀ b ∈ fp, FpOk X pins H b) → tn ds.length s.heap →
    wpAny (model P w) X.A (pyNext (.ref it)) (fun r s1 => r = none ∧ Inv X pins σ H s1) E s
  self : ∀ (A : Around) (i : Nat) (s : Shared) (Q : Value → Shared → Prop) (E : Value → Shared → Prop), tn i s.heap → Q (.ref it) s → wpAny (model P w) A (pyIter (.ref it)) Q E s
/-- by a walk of HandS -/
theorem DTurn.of {G : GS} {P : Program} {w : World} {K : PySem.W.Frag} {tg : Expr} {J : It} {it : Addr} {fp : List Addr} {tn : Nat → Heap → Prop} {H0 : Hp} {ds : List D} {chk : DS → Prop} (T : Turn P w K tg J fp it tn)
    (hgo : ∀ i d H S, ds[i]? = some d → Kept H0 H → MemR K G H S → chk S → J.go i H ∧ ∀ x H', J.yld i H x H' → Dat K G H' d x ∧ ∀ a o, H a = some o → H' a = some o)
    (hst : ∀ H S, Kept H0 H → MemR K G H S → chk S → J.stop ds.length H) : DTurn G P w K tg it fp tn H0 ds chk where
  mem := T.mem
  obj := T.obj
  keep := T.keep
  item := fun X e1 e2 e3 e4 i d pins s σ H S E hd I k m c f st => by
    obtain ⟨g, y⟩ := hgo i d H S hd k m c
    exact thn (T.item X e1 e2 e3 e4 i pins s σ H E I f st g) fun r s1 ⟨u, hr, h⟩ => ⟨u, hr, thn h fun _ s2 ⟨x, H', I', r', yy, st', fr⟩ => ⟨x, H', I', r', (y x H' yy).1, (y x H' yy).2, st', fr⟩⟩
  done := fun X e1 e2 e3 e4 pins s σ H S E I k m c f st => T.done X e1 e2 e3 e4 ds.length pins s σ H E I f st (hst H S k m c)
  self := T.self
abbrev DTI := Rho → DS → (List D → (DS → Prop) → DS → Prop) → Prop
/-- an iterator has come -/
def IPD (G : GS) (X : Cx) (S0 : DS) (pins : List (Addr × Obj)) (σ : L2.St) (ρ : Rho) (tg : Expr) (H : Hp) (S : DS) (R : List D → (DS → Prop) → DS → Prop) (itv : Value) (s2 : Shared) : Prop :=
  ∃ (it : Addr) (fp : List Addr) (tn : Nat → Heap → Prop) (H' : Hp) (S' : DS) (ds : List D) (chk : DS → Prop), itv = .ref it ∧ Inv X pins σ H' s2 ∧ Rep G X S0 σ H' ρ S' ∧ Step H S H' S' ∧ DTurn G X.prog X.w X.K tg it fp tn H' ds chk ∧ tn 0 s2.heap ∧ (∀ b ∈ fp, FpOk X pins H' b) ∧ R ds chk S'
structure DIt (G : GS) (X : Cx) (S0 : DS) (tg iter : Expr) (t : DTI) : Prop where
  run : ∀ (pins : List (Addr × Obj)) (s : Shared) (σ : L2.St) (H : Hp) (ρ : Rho) (S : DS) (R : List D → (DS → Prop) → DS → Prop), Inv X pins σ H s → Rep G X S0 σ H ρ S → t ρ S R →
    wpAny (model X.prog X.w) X.A (eval iter X.env) (fun v s1 => wpAny (model X.prog X.w) X.A (pyIter v) (IPD G X S0 pins σ ρ tg H S R) X.xe s1) X.xe s

/-- less is told -/
structure LeS (S2 S : DS) : Prop where
  mem : ∀ a o, S2.mem a = some o → S.mem a = some o
  lam : ∀ f x, S2.lam f = some x → S.lam f = some x
theorem LeS.refl (S : DS) : LeS S S := ⟨fun _ _ h => h, fun _ _ h => h⟩
theorem LeS.trans {S1 S2 S3 : DS} (a : LeS S1 S2) (b : LeS S2 S3) : LeS S1 S3 := ⟨fun _ _ h => b.mem _ _ (a.mem _ _ h), fun _ _ h => b.lam _ _ (a.lam _ _ h)⟩
structure LeR (ρ2 ρ : Rho) : Prop where
  len : ρ2.length = ρ.length
  env : ∀ (i : Nat) (d : D), ρ2[i]? = some (some d) → ρ[i]? = some (some d)
theorem LeR.refl (ρ : Rho) : LeR ρ ρ := ⟨rfl, fun _ _ h => h⟩
theorem Rep.le {G : GS} {X : Cx} {S0 : DS} {σ : L2.St} {H : Hp} {ρ ρ2 : Rho} {S S2 : DS} (R : Rep G X S0 σ H ρ S) (hr : LeR ρ2 ρ) (h : LeS S2 S) : Rep G X S0 σ H ρ2 S2 ∧ Step H S H S2 := by
  have st : Step H S H S2 := ⟨fun _ _ e _ _ => e, fun a e => by
    cases q : S2.mem a with
    | none => exact absurd q e
    | some o => exact .inl (by rw [h.mem a o q]; simp), fun _ ps e => ⟨ps, e⟩⟩
  exact ⟨⟨R.len.trans hr.len.symm, fun i d e => R.env i d (hr.env i d e), fun a o e => R.mem a o (h.mem a o e), fun f j sn e => R.lam f j sn (h.lam f _ e), R.tab, R.st.trans st⟩, st⟩
/-- some of it forgotten -/
def fgt (k : Rho → DS → Prop) : Rho → DS → Prop := fun ρ S => ∃ ρ2 S2, LeR ρ2 ρ ∧ LeS S2 S ∧ k ρ2 S2
def forS (g : DTGt) (body : DTS) (chk : DS → Prop) : List D → DTS
  | [], D, ρ, S => chk S ∧ D.nx ρ S
  | d :: ds, D, ρ, S => chk S ∧ g d ρ S fun ρ1 S1 => body { nx := fgt (forS g body chk ds D), ct := fgt (forS g body chk ds D), bk := D.nx, rt := D.rt } ρ1 S1
def whileS (t : DTT) (body : DTS) : Nat → DTS
  | 0, _, _, _ => False
  | n + 1, D, ρ, S => t ρ S fun k S1 => if k = true then body { nx := fgt (whileS t body n D), ct := fgt (whileS t body n D), bk := D.nx, rt := D.rt } ρ S1 else D.nx ρ S1
section
variable {G : GS} {X : Cx} {S0 : DS} {σ : L2.St} {H H' : Hp} {ρ : Rho} {S S' : DS} {s : Shared} {pins : List (Addr × Obj)} {e a b : Expr} {es : List Expr} {te ta tb : DT} {pos : Pos} {x : Str} {i : Nat}
theorem Rep.pinned {fp : List Addr} (I : Inv X pins σ H s) (hf : ∀ b ∈ fp, FpOk X pins H b) (ho : ∀ b ∈ fp, ∃ o, s.heap.get? b = some o ∧ ∀ v, o.data ≠ .cell v) : Inv X (pins ++ pinsAt fp s.heap) σ H s := I.pinned hf ho
theorem ds_for {iter tg : Expr} {body : List Stmt} {wi : DTI} {g : DTGt} {tb : DTS} (hp : PassesOwn (model X.prog X.w) X.A X.env X.xe) (hc : X.calm = true) (hi : DIt G X S0 tg iter wi) (hg : DTg G X S0 tg g) (hb : DSs G X S0 body tb)
    (hs : ∀ x, foldedSetIterable iter X.env x = pure x) : DSt G X S0 (.For tg iter body [] pos) (fun D ρ S => wi ρ S fun ds chk S1 => forS g tb chk ds D ρ S1) := by
  refine ⟨fun pins s σ H ρ S D I R h => ?_⟩
  refine wpAny_For (thn (hi.run pins s σ H ρ S _ I R h) fun v s1 h1 => thn h1 fun itv s2 h2 => ?_) hs
  obtain ⟨it, fp, tn, H2, S2, ds, chk, e, I2, R2, t2, T, st2, f2, w0⟩ := h2
  subst e
  have stat : ∀ {H' : Hp}, (∀ b ∈ fp, H' b = none) → ∀ b ∈ fp, FpOk X pins H' b := fun hn b hb => ⟨hn b hb, (f2 b hb).2⟩
  refine codeAny_forLoop_any (fun n s' => ∃ i σ' H' ρ' S', n = ds.length - i ∧ i ≤ ds.length ∧ Inv X pins σ' H' s' ∧ Rep G X S0 σ' H' ρ' S' ∧ Step H2 S2 H' S' ∧ tn i s'.heap ∧ (∀ b ∈ fp, H' b = none) ∧ forS g tb chk (ds.drop i) D ρ' S') ?_ ds.length
    ⟨0, σ, H2, ρ, S2, by simp, Nat.zero_le _, I2, R2, Step.refl _ _, st2, fun b hb => (f2 b hb).1, w0⟩
  rintro n s3 ⟨i, σ3, H3, ρ3, S3, rfl, hi3, I3, R3, t3, st3, fr3, w3⟩
  by_cases hlt : i < ds.length
  · have ed : ds[i]? = some ds[i] := List.getElem?_eq_getElem hlt
    rw [List.drop_eq_getElem_cons hlt] at w3
    obtain ⟨hchk, w3⟩ := w3
    refine wpAny_passesOwn hp (thn (T.item X rfl rfl rfl hc i ds[i] pins s3 σ3 H3 S3 X.xe ed I3 t3.k R3.mem hchk (stat fr3) st3) fun r s4 ⟨u, hr, h4⟩ => ?_)
    subst hr
    refine wpAny_passesOwn hp (thn h4 fun _ s5 ⟨x, H5, I5, r5, y5, gr5, st5, fr5⟩ => ?_)
    obtain ⟨R5, t5⟩ := R3.grow gr5
    have I5' := I5.pinned (stat fr5) (T.obj _ _ st5)
    refine wpAny_passesOwn hp (thn (hg.run _ s5 σ3 H5 ρ3 S3 x u ds[i] _ I5' R5 r5 y5 w3) fun _ s6 ⟨σ6, H6, ρ6, S6, I6, R6, t6, q6⟩ => ?_)
    refine wpAny_passesOwn hp (thn (hb.run _ s6 σ6 H6 ρ6 S6 _ I6 R6 q6) fun f s7 q7 => ?_)
    have again : ∀ {σ7 : L2.St} {H7 : Hp} {ρ7 : Rho} {S7 : DS}, Inv X (pins ++ pinsAt fp s5.heap) σ7 H7 s7 → Rep G X S0 σ7 H7 ρ7 S7 → Step H6 S6 H7 S7 → forS g tb chk (ds.drop (i + 1)) D ρ7 S7 →
        ∃ m, m < ds.length - i ∧ ∃ i σ' H' ρ' S', m = ds.length - i ∧ i ≤ ds.length ∧ Inv X pins σ' H' s7 ∧ Rep G X S0 σ' H' ρ' S' ∧ Step H2 S2 H' S' ∧ tn i s7.heap ∧ (∀ b ∈ fp, H' b = none) ∧ forS g tb chk (ds.drop i) D ρ' S' := fun {σ7 H7 ρ7 S7} I7 R7 t7 n7 => by
      refine ⟨ds.length - (i + 1), by omega, i + 1, σ7, H7, ρ7, S7, rfl, hlt, I7.unpinned, R7, ((t3.trans t5).trans t6).trans t7, T.keep _ _ _ st5 fun b hb o e => (I7.pin (b, o) (List.mem_append_right _ (List.mem_append_right _ (mem_pinsAt hb e)))).1, fun b hb => ?_, n7⟩
      obtain ⟨o, e, d⟩ := T.obj _ _ st5 b hb
      exact (I7.pin (b, o) (List.mem_append_right _ (List.mem_append_right _ (mem_pinsAt hb e)))).2.1
    have tt := ((t2.trans t3).trans t5).trans t6
    cases f with
    | next => obtain ⟨σ7, H7, ρ7, S7, I7, R7, t7, ρ8, S8, l1, l2, n7⟩ := q7; exact again I7 (R7.le l1 l2).1 (t7.trans (R7.le l1 l2).2) n7
    | cont => obtain ⟨σ7, H7, ρ7, S7, I7, R7, t7, ρ8, S8, l1, l2, n7⟩ := q7; exact again I7 (R7.le l1 l2).1 (t7.trans (R7.le l1 l2).2) n7
    | brk => obtain ⟨σ7, H7, ρ7, S7, I7, R7, t7, q7⟩ := q7; exact ⟨σ7, H7, ρ7, S7, I7.unpinned, R7, tt.trans t7, q7⟩
    | ret v => obtain ⟨x7, σ7, H7, ρ7, d7, S7, I7, R7, t7, r7, h7, q7⟩ := q7; exact ⟨x7, σ7, H7, ρ7, d7, S7, I7.unpinned, R7, tt.trans t7, r7, h7, q7⟩
  · have e : i = ds.length := by omega
    subst e
    rw [List.drop_length] at w3
    refine wpAny_passesOwn hp (thn (T.done X rfl rfl rfl hc pins s3 σ3 H3 S3 X.xe I3 t3.k R3.mem w3.1 (stat fr3) st3) fun r s4 ⟨hr, I4⟩ => ?_)
    subst hr
    exact wpAny_execs_nil ⟨σ3, H3, ρ3, S3, I4, R3, t2.trans t3, w3.2⟩
theorem ds_while {c : Expr} {body : List Stmt} {tc : DTT} {tb : DTS} (hp : PassesOwn (model X.prog X.w) X.A X.env X.xe) (hc : DTe G X S0 c tc) (hb : DSs G X S0 body tb) : DSt G X S0 (.While c body [] pos) (fun D ρ S => ∃ n, whileS tc tb n D ρ S) := by
  refine ⟨fun pins s σ H ρ S D I R h => ?_⟩
  obtain ⟨m0, w0⟩ := h
  refine wpAny_While (codeAny_whileLoop (fun n s' => ∃ σ' H' ρ' S', Inv X pins σ' H' s' ∧ Rep G X S0 σ' H' ρ' S' ∧ Step H S H' S' ∧ whileS tc tb n D ρ' S') ?_ m0 ⟨σ, H, ρ, S, I, R, Step.refl _ _, w0⟩)
  rintro n s1 ⟨σ1, H1, ρ1, S1, I1, R1, t1, w1⟩
  cases n with
  | zero => exact (show False from w1).elim
  | succ n =>
    refine wpAny_passesOwn hp (thn (hc.run pins s1 σ1 H1 ρ1 S1 _ I1 R1 w1) fun b s2 ⟨H2, S2, I2, R2, t2, q2⟩ => ?_)
    cases b with
    | true =>
      rw [if_pos rfl] at q2 ⊢
      refine wpAny_passesOwn hp (thn (hb.run pins s2 σ1 H2 ρ1 S2 _ I2 R2 q2) fun f s3 q3 => ?_)
      cases f with
      | next =>
        obtain ⟨σ3, H3, ρ3, S3, I3, R3, t3, ρ4, S4, l1, l2, n3⟩ := q3
        exact ⟨n, Nat.lt_succ_self n, σ3, H3, ρ4, S4, I3, (R3.le l1 l2).1, ((t1.trans t2).trans t3).trans (R3.le l1 l2).2, n3⟩
      | cont =>
        obtain ⟨σ3, H3, ρ3, S3, I3, R3, t3, ρ4, S4, l1, l2, n3⟩ := q3
        exact ⟨n, Nat.lt_succ_self n, σ3, H3, ρ4, S4, I3, (R3.le l1 l2).1, ((t1.trans t2).trans t3).trans (R3.le l1 l2).2, n3⟩
      | brk => exact SPD.after (f := .next) (D := D) (t1.trans t2) (by obtain ⟨σ3, H3, ρ3, S3, I3, R3, t3, n3⟩ := q3; exact ⟨σ3, H3, ρ3, S3, I3, R3, t3, n3⟩)
      | ret v => exact SPD.after (f := .ret v) (D := D) (t1.trans t2) q3
    | false =>
      rw [if_neg Bool.false_ne_true] at q2 ⊢
      exact wpAny_execs_nil ⟨σ1, H2, ρ1, S2, I2, R2, t1.trans t2, q2⟩

/-! ### what may be walked: a value -/
def walkS (d : D) (S : DS) (R : List D → (DS → Prop) → DS → Prop) : Prop := match d with
  | .tup ds => R ds (fun _ => True) S
  | .ref a => bindO (lstAt S a) fun ds => R ds (fun S' => lstAt S' a = some ds) S
  | .str z => R (z.cps.toList.map fun c => .str ⟨#[c]⟩) (fun _ => True) S
  | _ => False
theorem walkS_cases {d : D} {S : DS} {R : List D → (DS → Prop) → DS → Prop} (h : walkS d S R) : (∃ ds, d = .tup ds ∧ R ds (fun _ => True) S) ∨ (∃ a ds, d = .ref a ∧ lstAt S a = some ds ∧ R ds (fun S' => lstAt S' a = some ds) S) ∨ ∃ z, d = .str z ∧ R (z.cps.toList.map fun c => .str ⟨#[c]⟩) (fun _ => True) S := by
  unfold walkS at h
  split at h
  · exact .inl ⟨_, rfl, h⟩
  · obtain ⟨ds, e, q⟩ := bindO_some h
    exact .inr (.inl ⟨_, ds, rfl, e, q⟩)
  · exact .inr (.inr ⟨_, rfl, h⟩)
  · exact h.elim
theorem lstAt_mem {K : PySem.W.Frag} {H : Hp} {S : DS} {a : Addr} {ds : List D} (m : MemR K G H S) (h : lstAt S a = some ds) : ∃ vs, SqL K H a vs ∧ Dats K G H ds vs := by
  unfold lstAt at h
  cases e : S.mem a with
  | none => rw [e] at h; cases h
  | some o =>
    rw [e] at h
    cases o with
    | lst es => cases h; obtain ⟨vs, h1, h2⟩ := m a _ e; exact ⟨vs, SqL.of h1, h2⟩
    | ro es => cases h; obtain ⟨vs, ⟨ob, h1⟩, h2⟩ := m a _ e; exact ⟨vs, .inl (.inr ⟨ob, h1⟩), h2⟩
    | dk kvs => cases h
theorem MemR.of (R : Rep G X S0 σ H ρ S) : MemR X.K G H S := R.mem
/-- one iterator just laid -/
theorem ipd_one {tg : Expr} {R : List D → (DS → Prop) → DS → Prop} {ds : List D} {chk : DS → Prop} {tn : Nat → Heap → Prop} {tk : Nat} (I : Inv X pins σ H s) (Rp : Rep G X S0 σ H ρ S) (o : Obj)
    (T : DTurn G X.prog X.w X.K tg s.heap.objs.size [s.heap.objs.size] tn H ds chk) (st : tn 0 (s.heap.push o)) (q : R ds chk S) : IPD G X S0 pins σ ρ tg H S R (.ref s.heap.objs.size) { s with heap := s.heap.push o, toks := tk } := by
  refine ⟨s.heap.objs.size, [s.heap.objs.size], tn, H, S, ds, chk, rfl, I.kept fun b ob e => Heap.get?_push_of_some _ e, Rp, Step.refl _ _, T, st, fun b hb => ?_, q⟩
  have e : b = s.heap.objs.size := by simpa using hb
  subst e
  exact I.fpOk (Nat.le_refl _) (I.hok.fresh (Nat.le_refl _))
theorem Dats.tail_get {K : PySem.W.Frag} {G : GS} {H : Hp} {ds : List D} {vs : List V} {i : Nat} {d : D} (h : Dats K G H ds vs) (e : ds[i]? = some d) : ∃ v, vs[i]? = some v ∧ Dat K G H d v := h.get e
theorem it_val {d : D} {v : V} {u : Value} {tg : Expr} {R : List D → (DS → Prop) → DS → Prop} (I : Inv X pins σ H s) (Rp : Rep G X S0 σ H ρ S) (r : RelV v u) (h : Dat X.K G H d v) (q : walkS d S R) : wpAny (model X.prog X.w) X.A (pyIter u) (IPD G X S0 pins σ ρ tg H S R) X.xe s := by
  rcases walkS_cases q with ⟨ds, rfl, q⟩ | ⟨a, ds, rfl, e, q⟩ | ⟨z, rfl, q⟩
  · unfold Dat at h
    obtain ⟨p, vs, rfl, hp, hd⟩ := h
    cases r
    obtain ⟨its, rv, ht, hz⟩ := I.tuple hp
    have hl := hd.length
    refine wpAny_pyIter_tuple (show s.heap.IsTuple p its.toArray from ht) (ipd_one (tk := s.toks) I Rp _ (DTurn.of (turn_tuple p _) ?_ ?_) ⟨_, Heap.get?_push_size _ rfl, rfl, rfl⟩ q)
    · intro i d H' S' ed k m c
      obtain ⟨v, ev, hv⟩ := hd.get ed
      refine ⟨⟨vs, v, k.sqT hp, ev⟩, fun x H2 ⟨e2, y⟩ => ?_⟩
      subst e2
      have ex := y vs (k.sqT hp)
      rw [ev] at ex; cases ex
      exact ⟨Dat.mono k _ _ hv, fun _ _ z => z⟩
    · intro H' S' k m c
      exact ⟨vs, k.sqT hp, by omega⟩
  · cases (show v = .ref a from h)
    cases r
    obtain ⟨vs, hp, hd⟩ := lstAt_mem Rp.mem e
    obtain ⟨its, rv, ht, hz⟩ := I.list hp
    refine wpAny_pyIter_list ht.isList (ipd_one (tk := s.toks) I Rp _ (DTurn.of (turn_list a _) ?_ ?_) ⟨_, Heap.get?_push_size _ rfl, rfl, rfl⟩ q)
    · intro i d H' S' ed k m c
      obtain ⟨ws, hw, he⟩ := lstAt_mem m c
      obtain ⟨v, ev, hv⟩ := he.get ed
      refine ⟨⟨ws, v, hw, ev⟩, fun x H2 ⟨e2, y⟩ => ?_⟩
      subst e2
      have ex := y ws hw
      rw [ev] at ex; cases ex
      exact ⟨hv, fun _ _ z => z⟩
    · intro H' S' k m c
      obtain ⟨ws, hw, he⟩ := lstAt_mem m c
      exact ⟨ws, hw, by rw [← he.length]; exact Nat.le_refl _⟩
  · cases (show v = .str z from h)
    obtain ⟨t, rfl⟩ := r
    have go : ∀ (i : Nat) (d : D) (H' : Hp) (S' : DS), (z.cps.toList.map fun c => D.str ⟨#[c]⟩)[i]? = some d → Kept H H' → MemR X.K G H' S' → True → (Its z).go i H' ∧ ∀ x H2, (Its z).yld i H' x H2 → Dat X.K G H2 d x ∧ ∀ a o, H' a = some o → H2 a = some o := by
      intro i d H' S' ed k m c
      rw [List.getElem?_map] at ed
      cases ec : z.cps.toList[i]? with
      | none => rw [ec] at ed; cases ed
      | some cp =>
        rw [ec] at ed
        cases ed
        have ec' : z.cps[i]? = some cp := by rw [← Array.getElem?_toList]; exact ec
        refine ⟨?_, fun x H2 ⟨e2, cc, e3, e4⟩ => ?_⟩
        · show i < z.cps.size
          have := (Array.getElem?_eq_some_iff.mp ec').1
          exact this
        · subst e2 e4
          rw [ec'] at e3; cases e3
          exact ⟨rfl, fun _ _ z => z⟩
    have stp : ∀ (H' : Hp) (S' : DS), Kept H H' → MemR X.K G H' S' → True → (Its z).stop (z.cps.toList.map fun c => D.str ⟨#[c]⟩).length H' := by
      intro H' S' _ _ _
      show z.cps.size ≤ _
      rw [List.length_map, Array.length_toList]; exact Nat.le_refl _
    cases ha : z.cps.all (· < 128)
    · exact wpAny_pyIter_wide ha (ipd_one (tk := s.toks) I Rp _ (DTurn.of (turn_str _ z t "str_iterator" (.inr rfl)) go stp) ⟨_, Heap.get?_push_size _ rfl, rfl, rfl⟩ q)
    · exact wpAny_pyIter_ascii ha (ipd_one (tk := s.toks) I Rp _ (DTurn.of (turn_str _ z t "str_ascii_iterator" (.inl rfl)) go stp) ⟨_, Heap.get?_push_size _ rfl, rfl, rfl⟩ q)
theorem di_val {tg : Expr} (he : DE G X S0 e te) : DIt G X S0 tg e (fun ρ S R => te ρ S fun d S1 => walkS d S1 R) := by
  refine ⟨fun pins s σ H ρ S R I Rp h => ?_⟩
  refine thn (he.run pins s σ H ρ S _ I Rp h) fun v s1 ⟨x, H1, d1, S1, I1, r1, h1, R1, t1, q1⟩ => ?_
  refine thn (it_val (tg := tg) I1 R1 r1 h1 q1) fun itv s2 ⟨it, fp, tn, H2, S2, ds, chk, e, I2, R2, t2, T, w⟩ => ?_
  exact ⟨it, fp, tn, H2, S2, ds, chk, e, I2, R2, t1.trans t2, T, w⟩

/-! ### ranges -/
def rngD (lo c : Int) (n : Nat) : List D := (List.range n).map fun i => .int (lo + (i : Nat) * c)
theorem rngD_get {lo c : Int} {n i : Nat} {d : D} (h : (rngD lo c n)[i]? = some d) : i < n ∧ d = .int (lo + (i : Nat) * c) := by
  unfold rngD at h
  rw [List.getElem?_map] at h
  by_cases hi : i < n
  · rw [List.getElem?_range hi] at h
    cases h
    exact ⟨hi, rfl⟩
  · rw [List.getElem?_eq_none (by rw [List.length_range]; omega)] at h; cases h
theorem rngD_len {lo c : Int} {n : Nat} : (rngD lo c n).length = n := by simp [rngD]
def small62 (i : Int) : Prop := -(2 ^ 62) ≤ i ∧ i < 2 ^ 62
theorem turn_rngD {P : Program} {w : World} {K : PySem.W.Frag} {tg : Expr} {it : Addr} {lo c : Int} {n : Nat} : DTurn G P w K tg it [it] (fun i h => IsRangeIter h it (lo + (i : Nat) * c) ((n : Int) - (i : Nat)) c) H (rngD lo c n) (fun _ => True) := by
  refine DTurn.of (turn_rangeC it lo c n) ?_ ?_
  · intro i d H' S' ed k m _
    obtain ⟨hi, rfl⟩ := rngD_get ed
    exact ⟨hi, fun x H2 ⟨e2, e3⟩ => by subst e2 e3; exact ⟨rfl, fun _ _ z => z⟩⟩
  · intro H' S' _ _ _
    show n ≤ _
    rw [rngD_len]; exact Nat.le_refl _
theorem range_itD {tg : Expr} {R : List D → (DS → Prop) → DS → Prop} {lo hi c : Int} {n : Nat} {t u v : Tok} {tk : Nat} (I : Inv X pins σ H s) (Rp : Rep G X S0 σ H ρ S) (hc : RgC lo hi c n) (q : R (rngD lo c n) (fun _ => True) S) :
    wpAny (model X.prog X.w) X.A (pyIter (.ref s.heap.objs.size)) (IPD G X S0 pins σ ρ tg H S R) X.xe { s with heap := s.heap.push { cls := .type "range", data := .fields #[.int lo t, .int hi u, .int c v] }, toks := tk } := by
  obtain ⟨c0, c1, c2, c3⟩ := hc
  refine wpAny_pyIter_range (IsRange.new ..) c2 ?_
  have I2 : Inv X pins σ H { s with heap := s.heap.push { cls := .type "range", data := .fields #[.int lo t, .int hi u, .int c v] }, toks := tk } := I.kept fun b o e => Heap.get?_push_of_some _ e
  refine ipd_one (tk := tk) I2 Rp _ turn_rngD ?_ q
  have e1 : lo + ((0 : Nat) : Int) * c = lo := by simp
  have e2 : (n : Int) - ((0 : Nat) : Int) = Builtin.Range.rangeSize lo hi c := by rw [c3]; simp
  show IsRangeIter _ _ (lo + ((0 : Nat) : Int) * c) ((n : Int) - ((0 : Nat) : Int)) c
  rw [e1, e2]
  exact Heap.get?_push_size _ rfl
theorem RgC.one {i j : Int} (h1 : small62 i) (h2 : small62 j) : RgC i j 1 (j - i).toNat :=
  ⟨by decide, by decide, small_one h1.1 h1.2 h2.1 h2.2, by rw [rangeSize_one]; split <;> omega⟩
theorem IPD.after {tg : Expr} {R : List D → (DS → Prop) → DS → Prop} {S1 : DS} {H1 : Hp} {itv : Value} {s2 : Shared} (t1 : Step H S H1 S1) (h : IPD G X S0 pins σ ρ tg H1 S1 R itv s2) : IPD G X S0 pins σ ρ tg H S R itv s2 := by
  obtain ⟨it, fp, tn, H2, S2, ds, chk, e, I2, R2, t2, w⟩ := h
  exact ⟨it, fp, tn, H2, S2, ds, chk, e, I2, R2, t1.trans t2, w⟩
/-- what range is asked -/
def rngS (ds : List D) (R : List D → Prop) : Prop := match ds with
  | [.int j] => small62 j ∧ R (rngD 0 1 j.toNat)
  | [.int i, .int j] => small62 i ∧ small62 j ∧ R (rngD i 1 (j - i).toNat)
  | [.int i, .int j, .int c] => ∃ n, RgC i j c n ∧ R (rngD i c n)
  | _ => False
theorem rngS_cases {ds : List D} {R : List D → Prop} (h : rngS ds R) : (∃ j, ds = [.int j] ∧ small62 j ∧ R (rngD 0 1 j.toNat)) ∨ (∃ i j, ds = [.int i, .int j] ∧ small62 i ∧ small62 j ∧ R (rngD i 1 (j - i).toNat)) ∨ ∃ i j c n, ds = [.int i, .int j, .int c] ∧ RgC i j c n ∧ R (rngD i c n) := by
  unfold rngS at h
  split at h
  · exact .inl ⟨_, rfl, h⟩
  · exact .inr (.inl ⟨_, _, rfl, h⟩)
  · obtain ⟨n, h⟩ := h
    exact .inr (.inr ⟨_, _, _, n, rfl, h⟩)
  · exact h.elim
theorem Dats.mapInt : ∀ {is : List Int} {vs : List V} {K : PySem.W.Frag} {G : GS} {H : Hp}, Dats K G H (is.map .int) vs → vs = is.map .int
  | [], vs, _, _, _, h => h
  | i :: is, vs, _, _, _, h => by
    obtain ⟨v, r, rfl, h1, h2⟩ := h.cases1
    rw [show v = .int i from h1, Dats.mapInt h2]; rfl
theorem di_range {tg : Expr} {t : DTA} {p : Pos} {es : List Expr} (hg : Gl X "range") (hm : X.mg "range" = none) (ha : DA G X S0 (e :: es) t) (hs : (e :: es).all (fun e => !isStar e) = true) : DIt G X S0 tg (.Call (.Name "range" p) (e :: es) [] pos) (fun ρ S R => t ρ S fun ds S1 => rngS ds fun l => R l (fun _ => True) S1) := by
  refine ⟨fun pins s σ H ρ S R I Rp h => ?_⟩
  simp only [List.all_cons, Bool.and_eq_true, Bool.not_eq_true'] at hs
  refine Call_ (ld_blt I hg hm boot_range (PyProof.Rows.callWith_type1 (thn (ha.run pos pins s σ H ρ S _ I Rp h) fun us s1 ⟨vs, H1, ds, S1, I1, r1, h1, R1, t1, q1⟩ => ?_) (star_cons hs.1) (star_none hs.2 pos)))
  rcases rngS_cases q1 with ⟨j, rfl, hj, q⟩ | ⟨i, j, rfl, hi, hj, q⟩ | ⟨i, j, c, n, rfl, hc, q⟩
  · cases (Dats.mapInt (is := [j]) h1)
    cases r1 with
    | cons r rr =>
      cases rr
      obtain ⟨t, rfl⟩ := r
      refine call_range_1 (thn (range_itD (n := j.toNat) I1 R1 (by have z := RgC.one (i := 0) (j := j) (by unfold small62; omega) hj; simpa using z) q) fun _ _ z => z.after t1)
  · cases (Dats.mapInt (is := [i, j]) h1)
    cases r1 with
    | cons r rr =>
      cases rr with
      | cons r' rr =>
        cases rr
        obtain ⟨t, rfl⟩ := r
        obtain ⟨t', rfl⟩ := r'
        refine call_range_2 (thn (range_itD I1 R1 (RgC.one hi hj) q) fun _ _ z => z.after t1)
  · cases (Dats.mapInt (is := [i, j, c]) h1)
    cases r1 with
    | cons r rr =>
      cases rr with
      | cons r' rr =>
        cases rr with
        | cons r'' rr =>
          cases rr
          obtain ⟨t, rfl⟩ := r
          obtain ⟨t', rfl⟩ := r'
          obtain ⟨t'', rfl⟩ := r''
          exact call_range_3 hc.1 (thn (range_itD (tk := s1.toks) I1 R1 hc q) fun _ _ z => z.after t1) (.inl (PyProof.noPylong_small hc.2.1))
end
end DL

namespace DL
open PySem PySem.Spec PyProof.Rows L2

/-! ### list comprehensions -/
def wipeR (ρ : Rho) : List Nat → Rho
  | [] => ρ
  | v :: vs => (wipeR ρ vs).set v none
theorem wipeR_length (ρ : Rho) : ∀ vs : List Nat, (wipeR ρ vs).length = ρ.length
  | [] => rfl
  | v :: vs => by unfold wipeR; rw [List.length_set, wipeR_length ρ vs]
theorem wipeR_some {ρ : Rho} {i : Nat} {x : D} : ∀ {vs : List Nat}, (wipeR ρ vs)[i]? = some (some x) → ρ[i]? = some (some x) ∧ i ∉ vs
  | [], h => ⟨h, by simp⟩
  | v :: vs, h => by
    unfold wipeR at h
    by_cases hi : v = i
    · subst hi
      by_cases hv : v < (wipeR ρ vs).length
      · rw [List.getElem?_set_self hv] at h; cases h
      · rw [List.getElem?_eq_none (by simpa using hv)] at h; cases h
    · rw [List.getElem?_set_ne hi] at h
      obtain ⟨h1, h2⟩ := wipeR_some h
      exact ⟨h1, by simp only [List.mem_cons, not_or]; exact ⟨fun e => hi e.symm, h2⟩⟩
def PutsIn (g : DTGt) (vs : List Nat) : Prop := ∀ d ρ S Q, g d ρ S Q → g d ρ S (fun ρ1 S1 => Q ρ1 S1 ∧ wipeR ρ1 vs = wipeR ρ vs)
/-- a clause's tests -/
structure DTes (G : GS) (X : Cx) (S0 : DS) (ifs : List Expr) (t : DTT) : Prop where
  run : ∀ (pins : List (Addr × Obj)) (s : Shared) (σ : L2.St) (H : Hp) (ρ : Rho) (S : DS) (Q : Bool → DS → Prop), Inv X pins σ H s → Rep G X S0 σ H ρ S → t ρ S Q →
    wpAny (model X.prog X.w) X.A (forIn ifs true fun c r => if r = true then do let ok ← isTrue c X.env (eval c X.env); pure (ForInStep.yield ok) else pure (ForInStep.yield r)) (TPD G X S0 pins σ ρ H S Q) X.xe s
/-- the items that come to be -/
def lcS (g : DTGt) (tt : DTT) (te : DT) (ρ : Rho) (chk : DS → Prop) (Sb : DS) : List D → List D → DS → (List D → DS → Prop) → Prop
  | [], acc, S, Q => chk S ∧ Q acc S
  | d :: ds, acc, S, Q => chk S ∧ g d ρ S fun ρ1 S1 => tt ρ1 S1 fun b S2 => if b = true then te ρ1 S2 fun y S3 => lcS g tt te ρ chk Sb ds (acc ++ [y]) (S3.back Sb) Q else lcS g tt te ρ chk Sb ds acc (S2.back Sb) Q
section
variable {G : GS} {X : Cx} {S0 : DS} {σ : L2.St} {H H' : Hp} {ρ : Rho} {S S' : DS} {s : Shared} {pins : List (Addr × Obj)} {e a b : Expr} {es : List Expr} {te ta tb : DT} {pos : Pos} {x : Str} {i : Nat}
theorem dts_nil : DTes G X S0 [] (fun _ S Q => Q true S) := ⟨fun _ _ _ H _ S _ I R h => wpAny_tests_nil ⟨H, S, I, R, Step.refl _ _, h⟩⟩
theorem dts_one {c : Expr} {t : DTT} (h : DTe G X S0 c t) : DTes G X S0 [c] t := ⟨fun pins s σ H ρ S Q I R hw => wpAny_tests_one (h.run pins s σ H ρ S Q I R hw)⟩
/-- a new thing is told -/
theorem Rep.tell {D : Addr} {o : MO} (R0 : Rep G X S0 σ H ρ S) (R : Rep G X S0 σ H' ρ S') (st : Step H S H' S') (hD : H D = none) (m : MOk X.K G H' D o) : Rep G X S0 σ H' ρ (S'.put D o) ∧ Step H S H' (S'.put D o) := by
  have st' : Step H S H' (S'.put D o) := ⟨st.kept, fun a h => by
    by_cases e : a = D
    · subst e; exact .inr hD
    · rw [DS.put_ne e] at h; exact st.dom a h, st.tbl⟩
  refine ⟨⟨R.len, R.env, fun a o' e => ?_, R.lam, R.tab, R0.st.trans st'⟩, st'⟩
  by_cases ea : a = D
  · subst ea; rw [DS.put_same] at e; cases e; exact m
  · rw [DS.put_ne ea] at e; exact R.mem a o' e
theorem lam_block {scope : Scope} {ce : Env} {fp : List Addr} (I : Inv X pins σ H s) (hf : ∀ b ∈ fp, ∃ o, s.heap.get? b = some o ∧ ∀ v, o.data ≠ .cell v) {f : Addr} {j : Nat} {sn : List D} (h : LamAt G X σ H f j sn) (k : Kept H H') (σ' : L2.St) : LamAt G (X.blk s H scope ce fp) σ' H' f j sn := by
  obtain ⟨ld, q, cs, pm, ctv, c', u, h1, h2, h3, h4, h5⟩ := h.now I
  refine ⟨ld, q, cs, pm, ctv, c', u, h1, k _ _ rfl h2, k _ _ rfl h3, h4, fun i y ey => ?_⟩
  obtain ⟨c, d, w, v, a1, a2, a3, a4, a5, a6⟩ := h5 i y ey
  refine ⟨c, d, a1, a2, .inr ⟨w, v, a3, a4, fun hc => ?_, a5, Dat.mono k _ _ a6⟩⟩
  obtain ⟨o, e1, e2⟩ := hf c hc
  obtain ⟨o', e1', e2'⟩ := a3
  rw [e1] at e1'; cases e1'
  exact e2 _ e2'
theorem Rep.block {scope : Scope} {ce : Env} {fp : List Addr} {vs : List Nat} {L0 : Addr} {m : MO} (I : Inv X pins σ H s) (R : Rep G X S0 σ H ρ S) (hf : ∀ b ∈ fp, ∃ o, s.heap.get? b = some o ∧ ∀ v, o.data ≠ .cell v) :
    Rep G (X.blk s H scope ce fp) (S.put L0 m) (wipe σ vs) H (wipeR ρ vs) S where
  len := by rw [wipe_length, wipeR_length]; exact R.len
  env := fun i d e => by
    obtain ⟨e1, e2⟩ := wipeR_some e
    obtain ⟨v, e3, e4⟩ := R.env i d e1
    exact ⟨v, by rw [wipe_out e2]; exact e3, e4⟩
  mem := R.mem
  lam := fun f j sn e => lam_block I hf (R.lam f j sn e) (Kept.refl _) _
  tab := R.tab
  st := ⟨fun a o e c t => e, fun a h => .inl (by
    by_cases ea : a = L0
    · subst ea; rw [DS.put_same]; simp
    · rw [DS.put_ne ea]; exact h), fun a ps h => ⟨ps, h⟩⟩
/-- a thing of which the store says nothing is written -/
theorem Rep.untold {L0 : Addr} {vs : List V} {ho : HO} (R : Rep G X S0 σ H ρ S) (hm : S.mem L0 = none) (h0 : S0.mem L0 ≠ none) (hL : H L0 = some (.lst vs)) (hL0 : X.H_0 L0 ≠ none) : Rep G X S0 σ (upd H L0 ho) ρ S := by
  have ne : ∀ b o, H b = some o → Imm o = true → b ≠ L0 := fun b o e i z => by subst z; rw [hL] at e; cases e; cases i
  have k : Kept H (upd H L0 ho) := fun b o i e => by rw [upd_ne (ne b o e i)]; exact e
  have kt : ∀ b ps, H b = some (.tbl ps) → upd H L0 ho b = some (.tbl ps) := fun b ps e => by
    have z : b ≠ L0 := fun z => by subst z; rw [hL] at e; cases e
    rw [upd_ne z]; exact e
  refine ⟨R.len, fun i d e => ?_, fun b o e => ?_, fun f j sn e => (R.lam f j sn e).mono k, tabs_keep k kt R.tab, ⟨fun a o e c t => ?_, R.st.dom, fun a ps e => ?_⟩⟩
  · obtain ⟨v, e1, e2⟩ := R.env i d e
    exact ⟨v, e1, Dat.mono k _ _ e2⟩
  · have eb : b ≠ L0 := fun z => by subst z; rw [hm] at e; cases e
    exact (R.mem b o e).mono k fun u q => by rw [upd_ne eb]; exact q
  · have z := R.st.kept a o e c t
    have ea : a ≠ L0 := fun q => by
      subst q
      rcases c with c | c
      · exact h0 c
      · exact ne a o z c rfl
    rw [upd_ne ea]; exact z
  · obtain ⟨ps', z⟩ := R.st.tbl a ps e
    exact ⟨ps', kt a ps' z⟩
theorem Step.grow (k : ∀ a o, H a = some o → H' a = some o) : Step H S H' S := ⟨fun a o e _ _ => k a o e, fun _ h => .inl h, fun a ps h => ⟨ps, k a _ h⟩⟩
theorem Step.back_mem (S S' : DS) : (S'.back S).mem = S'.mem := rfl
theorem wipeR_none {ρ : Rho} {i : Nat} : ∀ {vs : List Nat}, i ∈ vs → i < ρ.length → (wipeR ρ vs)[i]? = some none
  | v :: vs, h, hl => by
    unfold wipeR
    by_cases e : v = i
    · subst e
      rw [List.getElem?_set_self (by rw [wipeR_length]; exact hl)]
    · rw [List.getElem?_set_ne e]
      exact wipeR_none ((List.mem_cons.mp h).resolve_left fun z => e z.symm) hl
theorem wipeR_out {ρ : Rho} {i : Nat} : ∀ {vs : List Nat}, i ∉ vs → (wipeR ρ vs)[i]? = ρ[i]?
  | [], _ => rfl
  | v :: vs, h => by
    have h1 : v ≠ i := fun e => h (by rw [e]; exact List.mem_cons_self)
    have h2 : i ∉ vs := fun m => h (List.mem_cons_of_mem _ m)
    unfold wipeR
    rw [List.getElem?_set_ne h1]
    exact wipeR_out h2
theorem wipeR_two (ρ : Rho) (vs : List Nat) : wipeR (wipeR ρ vs) vs = wipeR ρ vs := by
  refine List.ext_getElem? fun i => ?_
  by_cases hi : i ∈ vs
  · by_cases hl : i < ρ.length
    · rw [wipeR_none hi (by rw [wipeR_length]; exact hl), wipeR_none hi hl]
    · rw [List.getElem?_eq_none (by rw [wipeR_length, wipeR_length]; omega), List.getElem?_eq_none (by rw [wipeR_length]; omega)]
  · rw [wipeR_out hi]
theorem Rep.wipe2 {Sb : DS} (R : Rep G X S0 σ H ρ S) {ρ1 : Rho} {vs : List Nat} (h : wipeR ρ vs = ρ1) (hlam : ∀ f j sn, Sb.lam f = some (j, sn) → LamAt G X (wipe σ vs) H f j sn) : Rep G X S0 (wipe σ vs) H ρ1 (S.back Sb) where
  len := by rw [wipe_length, ← h, wipeR_length]; exact R.len
  env := fun i d e => by
    rw [← h] at e
    obtain ⟨e1, e2⟩ := wipeR_some e
    obtain ⟨v, e3, e4⟩ := R.env i d e1
    exact ⟨v, by rw [wipe_out e2]; exact e3, e4⟩
  mem := R.mem
  lam := hlam
  tab := R.tab
  st := ⟨R.st.kept, R.st.dom, R.st.tbl⟩
theorem lcD_core {Q : QE} {elt tg iter : Expr} {ifs : List Expr} {scope : Scope} {own : List (Str × Nat)} {pos pos' : Pos} {wi : DTI} {g : DTGt} {tt : DTT} {te : DT} {use : Option (Value → Sem Unit)} {Qf : Value → Shared → Prop}
    (hc : X.calm = true) (hN : X.N.Nodup) (I : Inv X pins σ H s) (R0 : Rep G X S0 σ H ρ S) (hi : DIt G X S0 tg iter wi) (ok : BlkOk X.N X.env.scope scope own) (hpi : PutsIn g (own.map (·.2)))
    (hg : ∀ (s : Shared) (H : Hp) (S1 : DS) (C : Addr) (cl : List (Str × Addr)) (fp : List Addr), DTg G (X.blk s H scope (compEnvC scope cl C X.env) fp) S1 tg g) (ht : ∀ (s : Shared) (H : Hp) (S1 : DS) (C : Addr) (cl : List (Str × Addr)) (fp : List Addr), DTes G (X.blk s H scope (compEnvC scope cl C X.env) fp) S1 ifs tt)
    (he : ∀ (s : Shared) (H : Hp) (S1 : DS) (C : Addr) (cl : List (Str × Addr)) (fp : List Addr), DE G (X.blk s H scope (compEnvC scope cl C X.env) fp) S1 elt te) (hs : ∀ x, foldedSetIterable iter X.env x = pure x)
    (h : wi ρ S fun ds chk S1 => ds.length ≤ sizeLine ∧ lcS g tt te (wipeR ρ (own.map (·.2))) chk S1 ds [] S1 fun acc S2 => ∀ p, S2.mem p = none → Q (.ref p) ((S2.back S1).put p (.lst acc)))
    (hRR : ∀ D1 C s' m H' S', Inv X pins σ H' s' → Rep G X S0 σ H' ρ S' → Step H S H' S' → Q (.ref D1) S' → s'.heap.Ns C m → FpOk X pins H' C → compPost (model X.prog X.w) X.A X.xe use Qf (.ref D1) C (.ok .next) s') :
    wpAny (model X.prog X.w) X.A (comprehension (.ListComp elt [⟨tg, iter, ifs, 0⟩] scope pos) scope X.env pos' (newList []) false (eval iter X.env) use) Qf X.xe s := by
  have hfree : ∀ y ∈ scope.names, y.2 = .free → ∃ c, X.env.cells.lookup y.1 = some c := fun y hy e => by
    rcases ok.free y hy e with k | k
    · exact I.ok.has _ (.inl k)
    · exact I.ok.has _ (.inr k)
  refine wpAny_comprehension_free (use := use) rfl hs (closure_ok hfree) ok.kind (fun y hy e => by rw [ok.uniq y hy, e])
    (thn (hi.run pins s σ H ρ S _ I R0 h) fun xv s1 hx => thn hx fun itv s2 h2 => ?_)
  obtain ⟨it, fp, tn, H2, S2, ds, chk, e, I2, R2, t2, T, st2, f2, hlen, w0⟩ := h2
  subst e
  refine wpAny_newObj_type (newEnv_comp ?_) (by show 0 ≤ sizeLine; decide)
  generalize hD : s2.heap.objs.size = L0
  have hDn : H2 L0 = none := I2.hok.fresh (Nat.le_of_eq hD)
  -- the new list
  generalize hs3 : ({ s2 with heap := s2.heap.push { cls := .type "list", data := .seq ([] : List Value).toArray } } : Shared) = s3
  have I3 : Inv X pins σ (upd H2 L0 (.lst [])) s3 := by
    rw [← hs3]
    refine I2.laid (t' := s2.toks) (fun b o e => Heap.get?_push_of_some _ e) (Nat.le_of_eq hD) ⟨Nat.zero_le _, [], 0, .nil, ?_⟩
    rw [← hD]
    exact Heap.get?_push_size _ rfl
  have k3 : ∀ a o, H2 a = some o → upd H2 L0 (.lst []) a = some o := upd_grow hDn
  obtain ⟨R3, t3⟩ := R2.grow k3
  have h3 : s3.heap = s2.heap.push { cls := .type "list", data := .seq ([] : List Value).toArray } := by rw [← hs3]
  have sz : ∀ b ∈ fp, b < s2.heap.objs.size := fun b hb => by
    obtain ⟨o, e, _⟩ := T.obj _ _ st2 b hb
    exact Heap.lt_size e
  have f3 : ∀ b ∈ fp, FpOk X pins (upd H2 L0 (.lst [])) b ∧ b < s3.heap.objs.size := fun b hb => by
    have hlt := sz b hb
    refine ⟨⟨?_, (f2 b hb).2⟩, by rw [h3, Heap.size_push]; exact Nat.lt_succ_of_lt hlt⟩
    rw [upd_ne (by rw [← hD]; exact Nat.ne_of_lt hlt)]
    exact (f2 b hb).1
  have st3 : tn 0 s3.heap := T.keep _ _ _ st2 fun b _ o e => by rw [h3]; exact Heap.get?_push_of_some _ e
  have I4 := block_start I3 ok hN f3
  have pg := hg s3 (upd H2 L0 (.lst [])) (S2.put L0 (.lst [])) s3.heap.objs.size (cellsFrom (s3.heap.objs.size + 1) scope.names (cloFrom X.env.cells scope.names [])) fp
  have pt := ht s3 (upd H2 L0 (.lst [])) (S2.put L0 (.lst [])) s3.heap.objs.size (cellsFrom (s3.heap.objs.size + 1) scope.names (cloFrom X.env.cells scope.names [])) fp
  have pe := he s3 (upd H2 L0 (.lst [])) (S2.put L0 (.lst [])) s3.heap.objs.size (cellsFrom (s3.heap.objs.size + 1) scope.names (cloFrom X.env.cells scope.names [])) fp
  show codeAny _ _ (.compStart (.ListComp elt [⟨tg, iter, ifs, 0⟩] scope pos) 0 (.ref it) (.ref L0) (compEnvC scope (cellsFrom (s3.heap.objs.size + 1) scope.names (cloFrom X.env.cells scope.names [])) s3.heap.objs.size X.env)) (compPost (model X.prog X.w) X.A X.xe use Qf (.ref L0) s3.heap.objs.size) { s3 with heap := pushCells (s3.heap.push { cls := .type "dict", data := .dict #[] }) scope.names }
  have nfp : ∀ b ∈ fp, (upd H2 L0 (.lst [])) b = none := fun b hb => (f3 b hb).1.1
  have R4 := Rep.block (scope := scope) (ce := compEnvC scope (cellsFrom (s3.heap.objs.size + 1) scope.names (cloFrom X.env.cells scope.names [])) s3.heap.objs.size X.env) (fp := fp) (vs := own.map (·.2)) (L0 := L0) (m := .lst []) I3 R3 (T.obj _ _ st3)
  have hlb : ∀ {H'}, Kept (upd H2 L0 (.lst [])) H' → ∀ (σ' : L2.St) f j sn, S2.lam f = some (j, sn) → LamAt G (X.blk s3 (upd H2 L0 (.lst [])) scope (compEnvC scope (cellsFrom (s3.heap.objs.size + 1) scope.names (cloFrom X.env.cells scope.names [])) s3.heap.objs.size X.env) fp) σ' H' f j sn := fun k σ' f j sn e => lam_block I3 (T.obj _ _ st3) (R3.lam f j sn e) k σ'
  generalize hce : compEnvC scope (cellsFrom (s3.heap.objs.size + 1) scope.names (cloFrom X.env.cells scope.names [])) s3.heap.objs.size X.env = ce at I4 R4 hlb pg pt pe ⊢
  have cL : ce.locals = s3.heap.objs.size := by subst hce; rfl
  have hDS : S2.mem L0 = none := by
    cases e : S2.mem L0 with
    | none => rfl
    | some o =>
      have z := R2.mem L0 o e
      cases o with
      | lst ds => obtain ⟨vs, e1, _⟩ := z; rw [hDn] at e1; cases e1
      | ro ds => obtain ⟨vs, ⟨ob, e1⟩, _⟩ := z; rw [hDn] at e1; cases e1
      | dk kvs => obtain ⟨kws, e1, _⟩ := z; rw [hDn] at e1; cases e1
  have hD3 : (upd H2 L0 (.lst [])) L0 = some (.lst []) := upd_same
  generalize hH3 : upd H2 L0 (.lst []) = H3 at I3 R3 I4 R4 hlb pg pt pe nfp f3 t3 k3 hD3
  generalize hs4 : ({ s3 with heap := pushCells (s3.heap.push { cls := .type "dict", data := .dict #[] }) scope.names } : Shared) = s4 at I4 ⊢
  have st4 : tn 0 s4.heap := T.keep _ _ _ st3 fun b _ o e => by rw [← hs4]; exact pushCells_keeps _ _ _ _ (Heap.get?_push_of_some _ e)
  have stat : ∀ {σ' : L2.St} {H' : Hp} {s' : Shared}, Inv (X.blk s3 H3 scope ce fp) [] σ' H' s' → (∀ b ∈ fp, H' b = none) → ∀ b ∈ fp, FpOk (X.blk s3 H3 scope ce fp) [] H' b := fun {σ' H' s'} I' hn b hb =>
    ⟨hn b hb, (I'.ok.exf b hb).1, I'.ok.exfs b hb, .inl hb, fun x c e => (I'.ok.exf b hb).2 x c e, fun p hp => absurd (show p ∈ ([] : List (Addr × Obj)) ++ [] from hp) (by simp)⟩
  have k23 : Kept H2 H3 := fun a o _ e => k3 a o e
  have loop : codeAny (model X.prog X.w) X.A (.compLoop (.ListComp elt [⟨tg, iter, ifs, 0⟩] scope pos) 0 (.ref it) (.ref L0) ce) (compPost (model X.prog X.w) X.A X.xe use Qf (.ref L0) s3.heap.objs.size) s4 := by
    refine compLoop_any (fun n s' => ∃ i σ' H' S' acc vs, n = ds.length - i ∧ i ≤ ds.length ∧ acc.length ≤ i ∧ Inv (X.blk s3 H3 scope ce fp) [] σ' H' s' ∧ Rep G (X.blk s3 H3 scope ce fp) (S2.put L0 (.lst [])) σ' H' (wipeR ρ (own.map (·.2))) S' ∧ tn i s'.heap ∧ (∀ b ∈ fp, H' b = none) ∧ H' L0 = some (.lst vs) ∧ S'.mem L0 = none ∧ Dats X.K G H' acc vs ∧
        lcS g tt te (wipeR ρ (own.map (·.2))) chk S2 (ds.drop i) acc S' fun acc S5 => ∀ p, S5.mem p = none → Q (.ref p) ((S5.back S2).put p (.lst acc))) ?_ ds.length ⟨0, _, H3, S2, [], [], by simp, Nat.zero_le _, Nat.le_refl _, I4, R4, st4, nfp, hD3, hDS, rfl, w0⟩
    rintro n s5 ⟨i, σ5, H5, S5, acc, vs, rfl, hi5, hacc, I5, R5, st5, n5, hD5, hm5, hd5, w5⟩
    have s35 : Step H3 (S2.put L0 (.lst [])) H5 S5 := R5.st
    have t25 : Step H2 S2 H5 S5 := by
      refine ⟨fun a o e c t => ?_, fun a h => ?_, fun a ps h => s35.tbl a ps (k3 a _ h)⟩
      · have ea : a ≠ L0 := fun z => by subst z; rw [hDn] at e; cases e
        refine s35.kept a o (k3 a o e) ?_ t
        rcases c with c | c
        · exact .inl (by rw [DS.put_ne ea]; exact c)
        · exact .inr c
      · by_cases ea : a = L0
        · subst ea; exact .inr hDn
        · rcases s35.dom a h with z | z
          · rw [DS.put_ne ea] at z; exact .inl z
          · refine .inr ?_
            cases q : H2 a with
            | none => rfl
            | some o => exact nomatch (k3 a o q).symm.trans z
    by_cases hlt : i < ds.length
    · have ed : ds[i]? = some ds[i] := List.getElem?_eq_getElem hlt
      rw [List.drop_eq_getElem_cons hlt] at w5
      obtain ⟨hchk, w5⟩ := w5
      have ti := T.item (X.blk s3 H3 scope ce fp) rfl rfl rfl hc i ds[i] [] s5 σ5 H5 S5 (fun _ _ => False) ed I5 t25.k R5.mem hchk (stat I5 n5) st5
      refine thnF ti fun r s6 ⟨u, hr, h6⟩ => ?_
      subst hr
      refine thnF h6 fun _ s7 ⟨x, H7, I7, r7, y7, gr7, st7, n7⟩ => ?_
      obtain ⟨R7, t7⟩ := R5.grow gr7
      have I7' := I7.pinned (stat I7 n7) (T.obj _ _ st7)
      refine thnF (pg.run _ s7 σ5 H7 _ S5 x u ds[i] _ I7' R7 r7 y7 (hpi _ _ _ _ w5)) fun _ s8 ⟨σ8, H8, ρ8, S8, I8, R8, t8, q8, hw8⟩ => ?_
      refine thnF (pt.run _ s8 σ8 H8 ρ8 S8 _ I8 R8 q8) fun b s9 ⟨H9, S9, I9, R9, t9, q9⟩ => ?_
      -- the turn's end
      have fin : ∀ {s' : Shared} {H' : Hp} {S' : DS} {acc' : List D} {vs' : List V}, acc'.length ≤ i + 1 → Inv (X.blk s3 H3 scope ce fp) ([] ++ pinsAt fp s7.heap) σ8 H' s' → Rep G (X.blk s3 H3 scope ce fp) (S2.put L0 (.lst [])) σ8 H' ρ8 S' → H' L0 = some (.lst vs') → S'.mem L0 = none → Dats X.K G H' acc' vs' →
          (lcS g tt te (wipeR ρ (own.map (·.2))) chk S2 (ds.drop (i + 1)) acc' (S'.back S2) fun acc S5 => ∀ p, S5.mem p = none → Q (.ref p) ((S5.back S2).put p (.lst acc))) →
          ∃ m, m < ds.length - i ∧ ∃ i σ' H' S' acc vs, m = ds.length - i ∧ i ≤ ds.length ∧ acc.length ≤ i ∧ Inv (X.blk s3 H3 scope ce fp) [] σ' H' s' ∧ Rep G (X.blk s3 H3 scope ce fp) (S2.put L0 (.lst [])) σ' H' (wipeR ρ (own.map (·.2))) S' ∧ tn i s'.heap ∧ (∀ b ∈ fp, H' b = none) ∧ H' L0 = some (.lst vs) ∧ S'.mem L0 = none ∧ Dats X.K G H' acc vs ∧
            lcS g tt te (wipeR ρ (own.map (·.2))) chk S2 (ds.drop i) acc S' fun acc S5 => ∀ p, S5.mem p = none → Q (.ref p) ((S5.back S2).put p (.lst acc)) := fun {s' H' S' acc' vs'} hl I' R' e1 e2 e3 e4 => by
        have pin' : ∀ b ∈ fp, ∀ o, s7.heap.get? b = some o → s'.heap.get? b = some o ∧ H' b = none := fun b hb o e =>
          let z := I'.pin (b, o) (List.mem_append_right _ (List.mem_append_right _ (mem_pinsAt hb e)))
          ⟨z.1, z.2.1⟩
        have ww : wipeR ρ8 (own.map (·.2)) = wipeR ρ (own.map (·.2)) := hw8.trans (wipeR_two ρ _)
        refine ⟨ds.length - (i + 1), by omega, i + 1, wipe σ8 (own.map (·.2)), H', S'.back S2, acc', vs', rfl, hlt, hl, (I'.unpinned (pins := [])).weak (by rw [wipe_length]) (fun j v e => (wipe_some e).1), ?_, T.keep _ _ _ st7 fun b hb o e => (pin' b hb o e).1, fun b hb => ?_, e1, e2, e3, e4⟩
        · exact R'.wipe2 ww fun f j sn e => hlb R'.st.k _ f j sn e
        · obtain ⟨o, e, _⟩ := T.obj _ _ st7 b hb
          exact (pin' b hb o e).2
      have kD : ∀ {H' S'}, Step H5 S5 H' S' → H' L0 = some (.lst vs) ∧ S'.mem L0 = none := fun {H' S'} t => by
        refine ⟨t.kept L0 _ hD5 (.inl hm5) rfl, ?_⟩
        cases e : S'.mem L0 with
        | none => rfl
        | some o =>
          rcases t.dom L0 (by rw [e]; simp) with z | z
          · exact absurd hm5 z
          · rw [hD5] at z; cases z
      have t59 := ((t7.trans t8).trans t9)
      cases b with
      | false =>
        simp only [Bool.false_eq_true, if_false] at q9 ⊢
        exact fin (by omega) I9 R9 (kD t59).1 (kD t59).2 (Dats.mono t59.k _ _ hd5) q9
      | true =>
        simp only [if_true] at q9 ⊢
        refine thnF (pe.run _ s9 σ8 H9 ρ8 S9 _ I9 R9 q9) fun z s10 ⟨yv, H10, d10, S10, I10, r10, h10, R10, t10, q10⟩ => ?_
        have t510 := t59.trans t10
        have hv5 := Dats.mono t510.k _ _ hd5
        refine app_ok (X := X.blk s3 H3 scope ce fp) I10 (kD t510).1 (by rw [← hd5.length]; omega) r10 fun s11 I11 => ?_
        have kk : Kept H10 (upd H10 L0 (.lst (vs ++ [yv]))) := fun b o im e => by
          rw [upd_ne (fun z => by subst z; rw [(kD t510).1] at e; cases e; cases im)]; exact e
        have R11 : Rep G (X.blk s3 H3 scope ce fp) (S2.put L0 (.lst [])) σ8 (upd H10 L0 (.lst (vs ++ [yv]))) ρ8 S10 := R10.untold (kD t510).2 (by rw [DS.put_same]; simp) (kD t510).1 (by show H3 L0 ≠ none; rw [hD3]; simp)
        exact fin (by rw [List.length_append]; simp; omega) I11 R11 upd_same (kD t510).2 ((Dats.mono kk _ _ hv5).append (Dats.one (Dat.mono kk _ _ h10))) q10
    · have e : i = ds.length := by omega
      subst e
      rw [List.drop_length] at w5
      have td := T.done (X.blk s3 H3 scope ce fp) rfl rfl rfl hc [] s5 σ5 H5 S5 (fun _ _ => False) I5 t25.k R5.mem w5.1 (stat I5 n5) st5
      refine thnF td fun r s6 ⟨hr, I6⟩ => ?_
      subst hr
      -- back in the def's context
      have I7 : Inv X pins σ H5 s6 := I3.call' (ch := fp) I6.os I6.base I6.hok I6.bare fun b hb => ⟨(f3 b hb).1.2.2.2.1, (f3 b hb).1.2.1, (f3 b hb).1.2.2.2.2.1, (f3 b hb).1.2.2.2.2.2⟩
      have nC : H5 s3.heap.objs.size = none := by
        have z : H5 ce.locals = none := I6.free
        rw [cL] at z
        exact z
      obtain ⟨m, hn, _⟩ := I6.loc
      have hn : s6.heap.Ns ce.locals m := hn
      rw [cL] at hn
      obtain ⟨R7, t7⟩ := R2.behind R5.mem R5.tab t25
      obtain ⟨R8, t8⟩ := R2.tell (o := .lst acc) R7 t7 hDn ⟨vs, hD5, hd5⟩
      exact hRR L0 s3.heap.objs.size s6 m H5 _ I7 R8 (t2.trans t8) (w5.2 L0 hm5) hn (I3.fpOk (Nat.le_refl _) nC)
  exact codeAny_compStart_list loop (T.self X.A 0 _ _ _ st4 loop)
abbrev lcQ (wi : DTI) (g : DTGt) (tt : DTT) (te : DT) (vs : List Nat) : DT := fun ρ S Q => wi ρ S fun ds chk S1 => ds.length ≤ sizeLine ∧ lcS g tt te (wipeR ρ vs) chk S1 ds [] S1 fun acc S2 => ∀ p, S2.mem p = none → Q (.ref p) ((S2.back S1).put p (.lst acc))
/-- as a value -/
theorem de_lc {elt tg iter : Expr} {ifs : List Expr} {scope : Scope} {own : List (Str × Nat)} {wi : DTI} {g : DTGt} {tt : DTT} {te : DT} (hc : X.calm = true) (hN : X.N.Nodup) (hi : DIt G X S0 tg iter wi) (ok : BlkOk X.N X.env.scope scope own) (hpi : PutsIn g (own.map (·.2)))
    (hg : ∀ (s : Shared) (H : Hp) (S1 : DS) (C : Addr) (cl : List (Str × Addr)) (fp : List Addr), DTg G (X.blk s H scope (compEnvC scope cl C X.env) fp) S1 tg g) (ht : ∀ (s : Shared) (H : Hp) (S1 : DS) (C : Addr) (cl : List (Str × Addr)) (fp : List Addr), DTes G (X.blk s H scope (compEnvC scope cl C X.env) fp) S1 ifs tt)
    (he : ∀ (s : Shared) (H : Hp) (S1 : DS) (C : Addr) (cl : List (Str × Addr)) (fp : List Addr), DE G (X.blk s H scope (compEnvC scope cl C X.env) fp) S1 elt te) (hs : ∀ x, foldedSetIterable iter X.env x = pure x) :
    DE G X S0 (.ListComp elt [⟨tg, iter, ifs, 0⟩] scope pos) (lcQ wi g tt te (own.map (·.2))) := by
  refine ⟨fun pins s σ H ρ S Q I R h => ?_⟩
  rw [eval_ListComp]
  refine lcD_core hc hN I R hi ok hpi hg ht he hs h fun L C s' m H' S' I' R' t' q hn f => ⟨m, hn, fun h'' sb => ?_⟩
  obtain ⟨f0, f1, f2, f3, f4, f5⟩ := f
  exact ⟨.ref L, H', .ref L, S', I'.turned (t' := s'.toks) (fun b o hb e => (sb.2 b hb).trans e) f0 f1 f3 f4 f5, rfl, rfl, R', t', q⟩
/-- name = [..] on one line, the name a local -/
theorem ds_setLc {y : Str} {py : Pos} {elt tg iter : Expr} {ifs : List Expr} {scope : Scope} {own : List (Str × Nat)} {spos : Pos} {wi : DTI} {g : DTGt} {tt : DTT} {te : DT} (hc : X.calm = true) (hN : X.N.Nodup) (hy : X.N[i]? = some y) (hyl : X.env.scope.names.lookup y = some .local)
    (hsw : swapsWith (.ListComp elt [⟨tg, iter, ifs, 0⟩] scope pos) (some (.Name y py)) spos.line X.env = pure true) (hi : DIt G X S0 tg iter wi) (ok : BlkOk X.N X.env.scope scope own) (hpi : PutsIn g (own.map (·.2)))
    (hg : ∀ (s : Shared) (H : Hp) (S1 : DS) (C : Addr) (cl : List (Str × Addr)) (fp : List Addr), DTg G (X.blk s H scope (compEnvC scope cl C X.env) fp) S1 tg g) (ht : ∀ (s : Shared) (H : Hp) (S1 : DS) (C : Addr) (cl : List (Str × Addr)) (fp : List Addr), DTes G (X.blk s H scope (compEnvC scope cl C X.env) fp) S1 ifs tt)
    (he : ∀ (s : Shared) (H : Hp) (S1 : DS) (C : Addr) (cl : List (Str × Addr)) (fp : List Addr), DE G (X.blk s H scope (compEnvC scope cl C X.env) fp) S1 elt te) (hs : ∀ x, foldedSetIterable iter X.env x = pure x) :
    DSt G X S0 (.Assign [.Name y py] (.ListComp elt [⟨tg, iter, ifs, 0⟩] scope pos) spos) (fun D ρ S => lcQ wi g tt te (own.map (·.2)) ρ S fun d S1 => D.nx (ρ.set i (some d)) (S1.upto (capN G y))) := by
  refine ⟨fun pins s σ H ρ S D I R h => ?_⟩
  rw [exec_Assign_Name_used _ _ _ _ hsw]
  refine wpAny_bind (wpAny_standAt (wpAny_bind ?_))
  show wpAny _ X.A (do let _ ← comprehension (.ListComp elt [⟨tg, iter, ifs, 0⟩] scope pos) scope X.env (firstIterPos [⟨tg, iter, ifs, 0⟩] pos) (newList []) false (eval iter X.env) (some (assign (.Name y py) X.env))) _ _ s
  refine wpAny_bind (thn (lcD_core (Q := fun d S1 => D.nx (ρ.set i (some d)) (S1.upto (capN G y))) (Qf := fun _ s' => SPD G X S0 pins H S D .next s') hc hN I R hi ok hpi hg ht he hs h fun L C s' m H' S' I' R' t' q hn f => ?_) fun _ s' hq => wpAny_pure (wpAny_pure hq))
  show wpAny _ _ (assign (.Name y py) X.env (.ref L)) _ _ _
  refine wpAny_assign_Name (store_ok2 (v := V.ref L) I' hN hy (.inl hyl) rfl (fun s2 I2 ⟨a, sb, ha⟩ => ?_) (.inr hyl))
  obtain ⟨f0, f1, f2, f3, f4, f5⟩ := f
  have haC : C ≠ a := by
    rcases ha with z | z
    · rw [z]; exact f1
    · exact fun e => f4 y a z e.symm
  refine ⟨m, hn.sameBut sb haC, fun h3 sb3 => ?_⟩
  obtain ⟨R3, t3⟩ := R'.setVar (d := .ref L) (v := .ref L) hN hy rfl rfl
  exact ⟨_, H', _, _, I2.turned (t' := s2.toks) (fun b o hb e => (sb3.2 b hb).trans e) f0 f1 f3 f4 f5, R3, t'.trans t3, q⟩
end
end DL

namespace DL
open PySem PySem.Spec PyProof.Rows L2

theorem lookup_none_of {α : Type} : ∀ {l : List (Str × α)} {n : Str}, n ∉ l.map (·.1) → l.lookup n = none
  | [], _, _ => rfl
  | (k, v) :: r, n, h => by
    simp only [List.map_cons, List.mem_cons, not_or] at h
    rw [List.lookup_cons]
    have : (n == k) = false := by simpa using h.1
    rw [this]
    exact lookup_none_of h.2
theorem zip_fst {α β : Type} : ∀ {l : List α} {m : List β}, l.length = m.length → (l.zip m).map (·.1) = l
  | [], [], _ => rfl
  | a :: l, b :: m, h => by
    simp only [List.zip_cons_cons, List.map_cons]
    rw [zip_fst (by simpa using h)]
theorem filterMap_zip : ∀ {l : List Str} {m : List Value} {L : List (Str × Value)}, l.length = m.length → (∀ p ∈ l.zip m, L.lookup p.1 = some p.2) → l.filterMap (fun n => (L.lookup n).map (n, ·)) = l.zip m
  | [], [], _, _, _ => rfl
  | a :: l, b :: m, L, h, hp => by
    simp only [List.zip_cons_cons, List.filterMap_cons]
    rw [hp (a, b) (by simp)]
    simp only [Option.map_some]
    rw [filterMap_zip (by simpa using h) fun p hp' => hp p (by simp [hp'])]
theorem lookup_zip : ∀ {l : List Str} {m : List Value}, l.Nodup → l.length = m.length → ∀ p ∈ l.zip m, (l.zip m).lookup p.1 = some p.2
  | [], [], _, _, p, h => by simp at h
  | a :: l, b :: m, nd, hl, p, h => by
    simp only [List.zip_cons_cons, List.mem_cons] at h ⊢
    rw [List.lookup_cons]
    rcases h with rfl | h
    · simp
    · have hm : p.1 ∈ l := (List.of_mem_zip h).1
      have : (p.1 == a) = false := by
        simp only [beq_eq_false_iff_ne, ne_eq]
        intro e
        subst e
        exact (List.nodup_cons.mp nd).1 hm
      rw [this]
      exact lookup_zip (List.nodup_cons.mp nd).2 (by simpa using hl) p h
theorem bind_ok {fd : FuncData} {pre ks : List Str} {us ws : List Value} (hp : fd.params.posonlyargs = []) (ha : fd.params.args.map (·.arg) = pre ++ ks) (hv : fd.params.vararg = none) (ho : fd.params.kwonlyargs = []) (hk : fd.params.kwarg = none) (hd : fd.defaults = .none)
    (nd : (pre ++ ks).Nodup) (h1 : us.length = pre.length) (h2 : ws.length = ks.length) : bindArgs fd ⟨us, ks.zip ws⟩ = pure ((pre ++ ks).zip (us ++ ws)) := by
  have hz : (pre ++ ks).zip us = pre.zip us := by
    have : us = us ++ [] := by simp
    rw [this, List.zip_append h1.symm]; simp
  have hzz : (pre ++ ks).zip (us ++ ws) = pre.zip us ++ ks.zip ws := List.zip_append h1.symm
  have loop : ∀ (l : List (Str × Value)) (sl : List (Str × Value)) (f : (Str × Value) → List (Str × Value) × List (Str × Value) → Sem (ForInStep (List (Str × Value) × List (Str × Value)))),
      (∀ k v r, k ∈ l.map (·.1) → r.1.lookup k = none → f (k, v) r = pure (ForInStep.yield (r.1 ++ [(k, v)], r.2))) → (∀ p ∈ l, sl.lookup p.1 = none) → (l.map (·.1)).Nodup →
      forIn l (sl, ([] : List (Str × Value))) f = pure (sl ++ l, []) := by
    intro l
    induction l with
    | nil => intro sl f _ _ _; rw [List.forIn_nil, List.append_nil]
    | cons p l ih =>
      intro sl f hf hl hn
      obtain ⟨k, v⟩ := p
      rw [List.forIn_cons, hf k v _ (by simp) (hl (k, v) (by simp))]
      simp only [List.map_cons, List.nodup_cons] at hn
      show forIn l (sl ++ [(k, v)], ([] : List (Str × Value))) f = _
      rw [ih (sl ++ [(k, v)]) f (fun k' v' r hk' => hf k' v' r (by simp [hk'])) (fun p hp => ?_) hn.2]
      · simp
      · rw [List.lookup_append, hl p (by simp [hp])]
        have : (p.1 == k) = false := by
          simp only [beq_eq_false_iff_ne, ne_eq]
          intro e
          subst e
          exact hn.1 (List.mem_map.mpr ⟨p, hp, rfl⟩)
        simp [List.lookup_cons, this]
  have nd1 := (List.nodup_append.mp nd)
  unfold bindArgs
  simp only [hp, ha, ho, hv, hk, hd, List.map_nil, List.nil_append, List.append_nil, hz]
  rw [loop (ks.zip ws) (pre.zip us) _ ?_ ?_ ?_]
  · simp only [pure_bind]
    rw [show seqItems? Value.none = (pure none : Sem (Option (Array Value))) from rfl]
    simp only [pure_bind, Option.getD_none, Array.toList_empty]
    have e1 : (decide (us.length > (pre ++ ks).length) && (none : Option Arg).isNone) = false := by
      rw [List.length_append]; simp; omega
    have lk : ∀ p ∈ (pre ++ ks).zip (us ++ ws), (pre.zip us ++ ks.zip ws).lookup p.1 = some p.2 := by
      rw [← hzz]
      exact lookup_zip nd (by simp [h1, h2])
    have e2 : List.filter (fun n => (List.lookup n (pre.zip us ++ ks.zip ws)).isNone) (pre ++ ks) = [] := by
      rw [List.filter_eq_nil_iff]
      intro n hn
      have : n ∈ ((pre ++ ks).zip (us ++ ws)).map (·.1) := by rw [zip_fst (by simp [h1, h2])]; exact hn
      obtain ⟨p, hp', rfl⟩ := List.mem_map.mp this
      rw [lk p hp']; simp
    simp only [e1, Bool.false_eq_true, if_false, List.length_nil, Nat.sub_zero, Nat.zero_sub, List.drop_nil, List.take_length, e2, List.isEmpty_nil, Bool.not_true, List.drop_length, List.zip_nil_right, List.forIn_nil, pure_bind, filterMap_zip (by simp [h1, h2]) lk, List.map_nil, Option.isSome_none]
  · intro k v r hk' hl
    rw [zip_fst h2.symm] at hk'
    have : ((pre ++ ks).contains k || ([] : List Str).contains k) = true := by simp [hk']
    simp only [this, if_true, hl, Option.isSome_none, Bool.false_eq_true, if_false]
  · intro p hp'
    have : p.1 ∈ ks := (List.of_mem_zip hp').1
    refine lookup_none_of ?_
    rw [zip_fst h1.symm]
    intro hm
    exact nd1.2.2 _ hm _ this rfl
  · rw [zip_fst h2.symm]; exact nd1.2.1
end DL

namespace DL
open PySem PySem.Spec PyProof.Rows L2

/-! ### own defs, called -/
structure DKw (G : GS) (X : Cx) (S0 : DS) (kws : List Keyword) (t : DTA) : Prop where
  run : ∀ (pos : Pos) (pins : List (Addr × Obj)) (s : Shared) (σ : L2.St) (H : Hp) (ρ : Rho) (S : DS) (Q : List D → DS → Prop), Inv X pins σ H s → Rep G X S0 σ H ρ S → t ρ S Q →
    wpAny (model X.prog X.w) X.A (evalAll ((backToKw pos (keywordEach kws X.env)).map (·.2))) (DAP G X S0 pins σ ρ H S Q) X.xe s
/-- every parameter is given, from the left, the rest by name -/
def BindD (fd : FuncData) (ps : List Str) : Prop := ∀ (us ws : List Value), us.length + ws.length = ps.length → bindArgs fd ⟨us, (ps.drop us.length).zip ws⟩ = pure (ps.zip (us ++ ws))
theorem BindD.of {fd : FuncData} {ps : List Str} (hp : fd.params.posonlyargs = []) (ha : fd.params.args.map (·.arg) = ps) (hv : fd.params.vararg = none) (ho : fd.params.kwonlyargs = []) (hk : fd.params.kwarg = none) (hd : fd.defaults = .none) (nd : ps.Nodup) : BindD fd ps := fun us ws hl => by
  have e : ps = ps.take us.length ++ ps.drop us.length := (List.take_append_drop _ _).symm
  have h := bind_ok (us := us) (ws := ws) (pre := ps.take us.length) (ks := ps.drop us.length) hp (by rw [← e]; exact ha) hv ho hk hd (by rw [← e]; exact nd) (by rw [List.length_take]; omega) (by rw [List.length_drop]; omega)
  rw [← e] at h
  exact h
section
variable {G : GS} {X : Cx} {S0 : DS} {σ : L2.St} {H H' : Hp} {ρ : Rho} {S S' : DS} {s : Shared} {pins : List (Addr × Obj)} {e a b : Expr} {es : List Expr} {te ta tb : DT} {pos p kpos : Pos} {x : Str} {i : Nat} {kws : List Keyword} {t tk : DTA} {nm : Option Str}
theorem dk_nil : DKw G X S0 [] (fun ρ S Q => Q [] S) := ⟨fun _ _ _ _ H ρ S Q I R h => wpAny_evalAll_nil ⟨[], H, [], S, I, .nil, rfl, R, Step.refl _ _, h⟩⟩
theorem dk_cons (ha : DE G X S0 e te) (hr : DKw G X S0 kws t) : DKw G X S0 (⟨nm, e, kpos⟩ :: kws) (fun ρ S Q => te ρ S fun d S1 => t ρ S1 fun ds S2 => Q (d :: ds) S2) := by
  refine ⟨fun pos pins s σ H ρ S Q I R h => ?_⟩
  show wpAny _ _ (evalAll ((do let v ← eval e X.env; standAt pos; pure v) :: (backToKw pos (keywordEach kws X.env)).map (·.2))) _ _ s
  refine wpAny_evalAll_cons (wpAny_bind (thn (ha.run pins s σ H ρ S _ I R h) fun u s1 ⟨x, H1, d1, S1, I1, r1, h1, R1, t1, q1⟩ => wpAny_bind (wpAny_standAt (wpAny_pure ?_))))
  exact thn (hr.run pos pins s1 σ H1 ρ S1 _ I1 R1 q1) fun us s2 ⟨vs, H2, ds, S2, I2, r2, h2, R2, t2, q2⟩ => ⟨x :: vs, H2, d1 :: ds, S2, I2, .cons r1 r2, Dats.cons (Dat.mono t2.k _ _ h1) h2, R2, t1.trans t2, q2⟩
variable {E' : EX} {k : Nat} {f : Addr} {fd : FuncData} {ps ks : List Str} {C : FC}
def errTo (E' : EX) (S0 : DS) : EX := fun n d S' => E' n d (S'.back S0)
theorem own_run (F : FnD G X.prog X.w X.K X.mg X.base k f fd ps C) (hr : RoomD k X.A) (tk' : TakesE G X S0 E') (hb : BindD fd ps) {us ws : List Value} {vs zs : List V} {ds es : List D} {Q : QE} (I : Inv X pins σ H s) (R : Rep G X S0 σ H ρ S) (r1 : Vals vs us) (r2 : Vals zs ws) (h1 : Dats X.K G H ds vs) (h2 : Dats X.K G H es zs)
    (hks : ks = ps.drop us.length) (q : C (ds ++ es) S Q (errTo E' S0)) : wpAny (model X.prog X.w) X.A (call (.ref f) ([] ++ us) (ks.zip ws)) (DP G X S0 pins σ ρ H S Q) X.xe s := by
  have l1 := h1.length; have l2 := r1.length; have l3 := h2.length; have l4 := r2.length
  have lc := F.len _ _ _ _ q
  rw [List.length_append] at lc
  subst hks
  exact run_fnD (args := ⟨us, (ps.drop us.length).zip ws⟩) F hr (BindsTo.of_eq (hb us ws (by omega))) tk' (fun _ _ _ z => z) I R (r1.append r2) (h1.append h2) q
/-- f(e, ..) -/
theorem de_ownA (F : FnD G X.prog X.w X.K X.mg X.base k f fd ps C) (hr : RoomD k X.A) (tk' : TakesE G X S0 E') (hg : Gl X x) (hm : X.mg x = some (.ref f)) (hk : PySem.W.keepIn X.K (.ref f) = true) (hb : BindD fd ps) (hdb : (x == ("__debug__" : Str)) = false)
    (ha : DA G X S0 (e :: es) t) (hs : (e :: es).all (fun e => !isStar e) = true) :
    DE G X S0 (.Call (.Name x p) (e :: es) [] pos) (fun ρ S Q => t ρ S fun ds S1 => C ds S1 Q (errTo E' S0)) := by
  refine ⟨fun pins s σ H ρ S Q I R h => ?_⟩
  refine wpAny_Call_Name_kw (ld_glob I hg hm ?_ hdb)
  simp only [List.all_cons, Bool.and_eq_true, Bool.not_eq_true'] at hs
  refine PySem.W.callWith_K (h₀ := X.base) I.ok.mod.kin hk (thn (ha.run pos pins s σ H ρ S _ I R h) fun us s1 ⟨vs, H1, ds, S1, I1, r1, h1, R1, t1, q1⟩ => ⟨I1.kIn, ?_⟩) (star_cons hs.1) (star_none hs.2 pos)
  have lc := F.len _ _ _ _ q1
  refine thn (own_run (ks := []) (ws := []) (zs := []) (es := []) F hr tk' hb I1 R1 r1 .nil h1 rfl ?_ (by rw [List.append_nil]; exact q1)) fun _ _ z => z.after t1
  rw [← r1.length, ← h1.length, lc, List.drop_length]
/-- f() -/
theorem de_own0 (F : FnD G X.prog X.w X.K X.mg X.base k f fd ps C) (hr : RoomD k X.A) (tk' : TakesE G X S0 E') (hg : Gl X x) (hm : X.mg x = some (.ref f)) (hk : PySem.W.keepIn X.K (.ref f) = true) (hb : BindD fd ps) (hdb : (x == ("__debug__" : Str)) = false) :
    DE G X S0 (.Call (.Name x p) [] [] pos) (fun ρ S Q => C [] S Q (errTo E' S0)) := by
  refine ⟨fun pins s σ H ρ S Q I R h => ?_⟩
  refine wpAny_Call_Name_kw (ld_glob I hg hm ?_ hdb)
  have lc := F.len _ _ _ _ h
  refine PySem.W.callWith_K0 I.kIn hk (own_run (us := []) (ws := []) (vs := []) (zs := []) (ds := []) (es := []) (ks := []) F hr tk' hb I R .nil .nil rfl rfl ?_ h)
  have : ps = [] := List.eq_nil_of_length_eq_zero lc.symm
  rw [this]; rfl
/-- f(e, .., k = v, ..) -/
theorem de_ownK {kw : Keyword} (F : FnD G X.prog X.w X.K X.mg X.base k f fd ps C) (hr : RoomD k X.A) (tk' : TakesE G X S0 E') (hg : Gl X x) (hm : X.mg x = some (.ref f)) (hk : PySem.W.keepIn X.K (.ref f) = true) (hb : BindD fd ps) (hdb : (x == ("__debug__" : Str)) = false)
    (ha : DA G X S0 (e :: es) t) (hkw : DKw G X S0 (kw :: kws) tk) (hs : (e :: es).all (fun e => !isStar e) = true) (hall : (backToKw pos (keywordEach (kw :: kws) X.env)).all (·.1.isSome) = true) (hks : (backToKw pos (keywordEach (kw :: kws) X.env)).filterMap (·.1) = ps.drop (e :: es).length) :
    DE G X S0 (.Call (.Name x p) (e :: es) (kw :: kws) pos) (fun ρ S Q => t ρ S fun ds S1 => tk ρ S1 fun ws S2 => ds.length = (e :: es).length ∧ C (ds ++ ws) S2 Q (errTo E' S0)) := by
  refine ⟨fun pins s σ H ρ S Q I R h => ?_⟩
  refine wpAny_Call_Name_kw (ld_glob I hg hm ?_ hdb)
  have hs0 := hs
  simp only [List.all_cons, Bool.and_eq_true, Bool.not_eq_true'] at hs
  refine PySem.W.callWith_KW (h₀ := X.base) I.ok.mod.kin hk hall (thn (ha.run pos pins s σ H ρ S _ I R h) fun us s1 ⟨vs, H1, ds, S1, I1, r1, h1, R1, t1, q1⟩ => ?_) ?_ (star_cons hs.1)
  · refine thn (hkw.run pos pins s1 σ H1 ρ S1 _ I1 R1 q1) fun ws s2 ⟨zs, H2, ds2, S2, I2, r2, h2, R2, t2, hl, q2⟩ => ⟨I2.kIn, ?_⟩
    refine thn (own_run F hr tk' hb I2 R2 r1 r2 (Dats.mono t2.k _ _ h1) h2 ?_ q2) fun _ _ z => z.after (t1.trans t2)
    rw [hks, ← r1.length, ← h1.length, hl]
  · rw [star_none hs0 pos, Bool.false_or]
    cases hq : (backToKw pos (keywordEach (kw :: kws) X.env)).any (·.1.isNone) with
    | false => rfl
    | true =>
      obtain ⟨q, hq1, hq2⟩ := List.any_eq_true.mp hq
      have := List.all_eq_true.mp hall q hq1
      cases e : q.1 <;> simp [e] at hq2 this
/-- f(k = v, ..) -/
theorem de_ownK0 {kw : Keyword} (F : FnD G X.prog X.w X.K X.mg X.base k f fd ps C) (hr : RoomD k X.A) (tk' : TakesE G X S0 E') (hg : Gl X x) (hm : X.mg x = some (.ref f)) (hk : PySem.W.keepIn X.K (.ref f) = true) (hb : BindD fd ps) (hdb : (x == ("__debug__" : Str)) = false)
    (hkw : DKw G X S0 (kw :: kws) tk) (hall : (backToKw pos (keywordEach (kw :: kws) X.env)).all (·.1.isSome) = true) (hks : (backToKw pos (keywordEach (kw :: kws) X.env)).filterMap (·.1) = ps) :
    DE G X S0 (.Call (.Name x p) [] (kw :: kws) pos) (fun ρ S Q => tk ρ S fun ws S2 => C ws S2 Q (errTo E' S0)) := by
  refine ⟨fun pins s σ H ρ S Q I R h => ?_⟩
  refine wpAny_Call_Name_kw (ld_glob I hg hm ?_ hdb)
  refine PySem.W.callWith_KW0 (h₀ := X.base) I.ok.mod.kin hk hall ?_ ?_
  · refine thn (hkw.run pos pins s σ H ρ S _ I R h) fun ws s2 ⟨zs, H2, ds2, S2, I2, r2, h2, R2, t2, q2⟩ => ⟨I2.kIn, ?_⟩
    exact thn (own_run (us := []) F hr tk' hb I2 R2 .nil r2 (ds := []) rfl h2 (by rw [hks]; rfl) q2) fun _ _ z => z.after t2
  · show (false || _) = false
    rw [Bool.false_or]
    cases hq : (backToKw pos (keywordEach (kw :: kws) X.env)).any (·.1.isNone) with
    | false => rfl
    | true =>
      obtain ⟨q, hq1, hq2⟩ := List.any_eq_true.mp hq
      have := List.all_eq_true.mp hall q hq1
      cases e : q.1 <;> simp [e] at hq2 this
end
/-! ### a def's body keeps its promise -/
def startR (N : List Str) (ds : List D) : Rho := ds.map some ++ List.replicate (N.length - ds.length) none
theorem Rep.startX {G : GS} {X : Cx} {K : PySem.W.Frag} {N : List Str} {s : Shared} {H : Hp} {vs : List V} {ds : List D} {S : DS}
    (hR : RepF K G H S s.heap) (hd : Dats K G H ds vs) (eK : X.K = K) (eH : X.H_0 = H) (es : X.s_0 = s) (ex : X.ex = []) : Rep G X S (L2.start N vs) H (startR N ds) S where
  len := by
    unfold L2.start startR
    simp only [List.length_append, List.length_map, List.length_replicate, hd.length]
  env := fun i d e => by
    have hl := hd.length
    unfold startR at e
    by_cases hi : i < ds.length
    · rw [List.getElem?_append_left (by simpa using hi), List.getElem?_map] at e
      cases q : ds[i]? with
      | none => rw [q] at e; cases e
      | some d' =>
        rw [q] at e; cases e
        obtain ⟨v, e1, e2⟩ := hd.get q
        refine ⟨v, ?_, by rw [eK]; exact e2⟩
        unfold L2.start
        rw [List.getElem?_append_left (by rw [List.length_map, ← hl]; exact hi), List.getElem?_map, e1]; rfl
    · rw [List.getElem?_append_right (by simpa using hi), List.getElem?_replicate] at e
      split at e <;> cases e
  mem := by rw [eK]; exact hR.mem
  lam := fun f j sn e => by
    obtain ⟨ld, q, cs, pm, ctv, c', u, h1, h2, h3, h4, h5⟩ := hR.lam f j sn e
    refine ⟨ld, q, cs, pm, ctv, c', u, h1, h2, h3, h4, fun i y ey => ?_⟩
    obtain ⟨c, d, w, v, a1, a2, a3, a4, a5, a6⟩ := h5 i y ey
    exact ⟨c, d, a1, a2, .inr ⟨w, v, by rw [es]; exact a3, by rw [eH]; exact a4, (by rw [ex]; simp), a5, by rw [eK]; exact a6⟩⟩
  tab := hR.tab
  st := by rw [eH]; exact Step.refl _ _
/-- what is told at a def's end: some may be forgotten -/
def fgtQ (S0 : DS) (Q : QE) : QE := fun d S' => ∃ S2, LeS S2 S' ∧ Q d (S2.back S0)
def fgtE (S0 : DS) (E : EX) : EX := fun n d S' => ∃ S2, LeS S2 S' ∧ E n d (S2.back S0)
theorem memR_le {K : PySem.W.Frag} {G : GS} {H : Hp} {S S2 : DS} (h : MemR K G H S) (l : ∀ a o, S2.mem a = some o → S.mem a = some o) : MemR K G H S2 := fun a o e => h a o (l a o e)
theorem step_le {H H' : Hp} {S S1 S2 : DS} (h : Step H S H' S1) (l : ∀ a o, S2.mem a = some o → S1.mem a = some o) : Step H S H' S2 := ⟨h.kept, fun a e => h.dom a (by
  cases q : S2.mem a with
  | none => exact absurd q e
  | some o => rw [l a o q]; simp), h.tbl⟩
theorem takes_fgt {G : GS} {X : Cx} {S0 : DS} {E : EX} (tk : TakesE G X S0 E) : TakesE G X S0 (fgtE S0 E) := L2.Takes.imp tk fun cls dd σ H h => by
  obtain ⟨n, a, w, d, S', e1, e2, e3, e4, e5, e6, e7, S2, l, q⟩ := h
  exact ⟨n, a, w, d, S2, e1, e2, e3, e4, fun b o e => e5 b o (l.mem b o e), e6, step_le e7 l.mem, q⟩
theorem fnD_body {G : GS} {P : Program} {w : World} {K : PySem.W.Frag} {mg : Str → Option Value} {base : Heap} {k : Nat} {f : Addr} {name qual : Str} {params : Arguments} {body : List Stmt} {scope : Scope} {dV kV doc pm cdv ct oc : Value} {an od : Option Addr}
    {osl : Array (Option Value)} {N ps : List Str} {C : FC} (lk : K.lookup f = some ⟨oc, od, .func (PySem.W.fnOf name qual params body scope dV kV doc pm an cdv ct), osl⟩) (hcd : PySem.W.codeIn K cdv qual = true) (Sc : FnScope N ps scope)
    (len : ∀ ds S Q E, C ds S Q E → ds.length = ps.length)
    (hbody : ∀ (X : Cx) (S0 : DS) (E : EX), X.prog = P → X.w = w → X.K = K → X.mg = mg → X.base = base → X.N = N → X.env.scope = scope → X.env.qual = (envOfC qual scope 0 f cdv).qual → X.env.code = cdv → X.calm = true → X.stack = X.env :: X.outer → X.env.frame = some X.env.locals → X.ex = [] → (∀ x, X.fn x = true) → RoomD k X.A → TakesE G X S0 (fgtE S0 E) → PassesOwn (model X.prog X.w) X.A X.env X.xe →
      ∃ t, DSs G X S0 body t ∧ ∀ ds Q, C ds S0 Q E → t { nx := fun _ => fgtQ S0 Q .non, rt := fgtQ S0 Q } (startR N ds) S0) :
    FnD G P w K mg base (k + 1) f (PySem.W.fnOf name qual params body scope dV kV doc pm an cdv ct) ps C := by
  refine ⟨len, fun A outer s H args us vs ds S Q E hr e0 hb r hd hR hC => ?_⟩
  have hl := len _ _ _ _ hC
  have hlv : vs.length = ps.length := by rw [← hd.length, hl]
  have KX : K.In s.heap := e0.mod.kin.keeps fun b o e => (e0.bs b o e).1
  have lim : s.heap.NoLimit := e0.mod.nolimit.keeps fun b o e => (e0.bs b o e).1
  have hkind : ∀ y ∈ ps.zip us, scope.names.lookup y.1 = some .local ∨ (scope.names.lookup y.1 = some .cell ∧ ((cellsFrom (s.heap.objs.size + 1) scope.names []).lookup y.1).isSome = true) := fun ⟨n, v⟩ hy => by
    rcases Sc.par n (List.of_mem_zip hy).1 with q | q
    · exact .inl q
    · exact .inr ⟨q, PySem.W.cellsFrom_some _ _ _ (.inl q)⟩
  refine codeAny_call_function hr.room.depth (KX _ _ lk) rfl Sc.co Sc.gen rfl (PySem.W.codeRec_of KX hcd) (hb _ _ _ _ ?_)
  refine wpAny_newFunctionEnv_cells Sc.kind hkind fun env he s1 x => ?_
  subst he
  refine ⟨lim.keeps x.toInCall.keep, codeAny_func ?_⟩
  have tk : TakesE G (cxOf (L2.CX P w) P w K mg base N qual scope f cdv A outer s H (EXK K G H S E)) S E := (takes_of (X := cxOf (L2.CX P w) P w K mg base N qual scope f cdv A outer s H (EXK K G H S E)) (E := EXK K G H S E) rfl rfl rfl rfl).imp fun cls d σ H' z => z
  obtain ⟨t, ht, hq⟩ := hbody (cxOf (L2.CX P w) P w K mg base N qual scope f cdv A outer s H (EXK K G H S E)) S E rfl rfl rfl rfl rfl rfl rfl rfl rfl rfl rfl rfl rfl (fun _ => rfl) (hr.deeper _) (takes_fgt tk) (passes_of rfl)
  have I : Inv (cxOf (L2.CX P w) P w K mg base N qual scope f cdv A outer s H (EXK K G H S E)) [] (L2.start N vs) H s1 := inv_start Sc hr.room.hd e0 hlv r x
  have R : Rep G (cxOf (L2.CX P w) P w K mg base N qual scope f cdv A outer s H (EXK K G H S E)) S (L2.start N vs) H (startR N ds) S := Rep.startX hR hd rfl rfl rfl rfl
  refine wpAny_mono (ht.run [] s1 (L2.start N vs) H (startR N ds) S _ I R (hq ds Q hC)) (fun fl s' hs => ?_) fun e s' hs => hs
  cases fl with
  | ret u =>
    obtain ⟨v, σ', H', ρ', d, S', J, R', t', rv, hd', S2, l, q⟩ := hs
    exact ⟨v, H', d, S2, J.os, J.bare, J.base, J.hok, rv, hd', memR_le R'.mem l.mem, R'.tab, step_le t' l.mem, q⟩
  | next =>
    obtain ⟨σ', H', ρ', S', J, R', t', S2, l, q⟩ := hs
    exact ⟨.non, H', .non, S2, J.os, J.bare, J.base, J.hok, rfl, rfl, memR_le R'.mem l.mem, R'.tab, step_le t' l.mem, q⟩
  | brk =>
    obtain ⟨_, _, _, _, _, _, _, q⟩ := hs
    exact False.elim q
  | cont =>
    obtain ⟨_, _, _, _, _, _, _, q⟩ := hs
    exact False.elim q
end DL

namespace DL
open PySem PySem.Spec PyProof.Rows L2

/-! ### lambdas, made -/
def DS.addLam (S : DS) (f : Addr) (j : Nat) (sn : List D) : DS := { S with lam := fun g => if g = f then some (j, sn) else S.lam g }
def snap (ρ : Rho) : List Nat → Option (List D)
  | [] => some []
  | i :: is => match ρ[i]? with
    | some (some d) => (snap ρ is).map (d :: ·)
    | _ => none
theorem snap_len {ρ : Rho} : ∀ {is : List Nat} {sn : List D}, snap ρ is = some sn → sn.length = is.length
  | [], sn, h => by cases h; rfl
  | i :: is, sn, h => by
    unfold snap at h
    split at h
    · cases e : snap ρ is with
      | none => rw [e] at h; cases h
      | some r => rw [e] at h; cases h; simp [snap_len e]
    · cases h
theorem snap_get {ρ : Rho} : ∀ {is : List Nat} {sn : List D} {k i : Nat}, snap ρ is = some sn → is[k]? = some i → ∃ d, sn[k]? = some d ∧ ρ[i]? = some (some d)
  | [], sn, k, i, h, e => by simp at e
  | j :: is, sn, k, i, h, e => by
    unfold snap at h
    split at h
    · rename_i d hd
      cases q : snap ρ is with
      | none => rw [q] at h; cases h
      | some r =>
        rw [q] at h
        cases h
        cases k with
        | zero => simp at e; subst e; exact ⟨d, rfl, hd⟩
        | succ k =>
          obtain ⟨d', e1, e2⟩ := snap_get (k := k) q (by simpa using e)
          exact ⟨d', by simpa using e1, e2⟩
    · cases h
structure LamMk (G : GS) (X : Cx) (j : Nat) (params : Arguments) (body : Expr) (scope : Scope) (ixs : List Nat) : Prop where
  ld : ∃ ld : LamD, G.lams[j]? = some ld ∧ ld.args = params ∧ ld.body = body ∧ ld.scope = scope ∧ ld.caps.length = ixs.length ∧ (∀ y ∈ scope.names, y.2 = .free → y.1 ∈ ld.caps) ∧
    ∀ (k : Nat) (y : Str), ld.caps[k]? = some y → (y, NameKind.free) ∈ scope.names ∧ (X.env.scope.names.lookup y = some .cell ∨ X.env.scope.names.lookup y = some .free) ∧ ∃ i, ixs[k]? = some i ∧ X.N[i]? = some y
section
variable {G : GS} {X : Cx} {S0 : DS} {σ : L2.St} {H H' : Hp} {ρ : Rho} {S S' : DS} {s : Shared} {pins : List (Addr × Obj)}
/-- a new object of ours is known from now on -/
theorem inv_freeze {f : Addr} {o : Obj} (I : Inv X pins σ H s) (hf : s.heap.get? f = some o) (hn : H f = none) (h0 : X.s_0.heap.objs.size ≤ f) (h1 : f ≠ X.env.locals) (h2 : ∀ x c, X.env.cells.lookup x = some c → c ≠ f) (h3 : ∀ p ∈ X.pn ++ pins, p.1 ≠ f) :
    Inv X pins σ (upd H f (.frz o (.ext fun h => h.get? f = some o))) s := by
  have k : ∀ b u, H b = some u → upd H f (.frz o (.ext fun h => h.get? f = some o)) b = some u := upd_grow hn
  refine ⟨I.ok, I.os, I.bare, ⟨I.base.keep, I.base.slot, fun b ob e n hx => ?_, I.base.there, fun b xs e => k _ _ (I.base.tups b xs e), fun b u xs e => k _ _ (I.base.frzs b u xs e), fun b ps e => ?_⟩, I.loc, I.cell, ?_, fun x c e => ?_, fun p hp => ?_, fun b u e => ?_, I.len⟩
  · rw [upd_ne (Nat.ne_of_lt (Nat.lt_of_lt_of_le (Heap.lt_size e) h0))]
    exact I.base.free b ob e n hx
  · obtain ⟨m, q⟩ := I.base.tbls b ps e
    exact ⟨m, k _ _ q⟩
  · rw [upd_ne (Ne.symm h1)]; exact I.free
  · rw [upd_ne (h2 x c e)]; exact I.freeC x c e
  · obtain ⟨a1, a2, a3⟩ := I.pin p hp
    exact ⟨a1, by rw [upd_ne (h3 p hp)]; exact a2, a3⟩
  · by_cases hb : b = f
    · subst hb
      rw [upd_same] at e
      cases e
      exact ⟨hf, hf, ⟨o, hf⟩, fun g1 g2 z y => y _ z⟩
    · rw [upd_ne hb] at e
      exact (I.hok b u e).stay (fun _ _ _ q => q) (fun c q => k _ _ q) fun c xs q => k _ _ q
theorem Rep.lamNew {f : Addr} {j : Nat} {sn : List D} (R0 : Rep G X S0 σ H ρ S) (st : Step H S H' S) (k : ∀ a o, H a = some o → isTbl o = false → H' a = some o) (ht : LamX.Tabs G.tabs H') (hl : LamAt G X σ H' f j sn) : Rep G X S0 σ H' ρ (S.addLam f j sn) ∧ Step H S H' (S.addLam f j sn) := by
  have st' : Step H S H' (S.addLam f j sn) := ⟨st.kept, st.dom, st.tbl⟩
  refine ⟨⟨R0.len, fun i d e => ?_, fun a o e => ?_, fun g k sm e => ?_, ht, R0.st.trans st'⟩, st'⟩
  · obtain ⟨v, e1, e2⟩ := R0.env i d e
    exact ⟨v, e1, Dat.mono st.k _ _ e2⟩
  · have e : S.mem a = some o := e
    have q := R0.mem a o e
    cases o with
    | lst ds =>
      obtain ⟨vs, e1, e2⟩ := q
      exact ⟨vs, k _ _ e1 rfl, Dats.mono st.k _ _ e2⟩
    | ro ds =>
      obtain ⟨vs, ⟨ob, e1⟩, e2⟩ := q
      exact ⟨vs, ⟨ob, k _ _ e1 rfl⟩, Dats.mono st.k _ _ e2⟩
    | dk kvs =>
      obtain ⟨kws, e1, e2, e3⟩ := q
      exact ⟨kws, k _ _ e1 rfl, e2, Dats.mono st.k _ _ e3⟩
  · have e : (if g = f then some (j, sn) else S.lam g) = some (k, sm) := e
    split at e
    · rename_i q
      cases e
      rw [q]; exact hl
    · exact (R0.lam g k sm e).mono st.k
theorem de_lambda {j : Nat} {c P : Addr} {params : Arguments} {body : Expr} {scope : Scope} {ixs : List Nat} {pos : Pos} (TB : LamX.TabB X.base X.mg c P) (hcode : X.env.code = .ref c) (hm : (P, X.env.qual ++ "<lambda>") ∈ G.tabs) (hu : ∀ p ∈ G.tabs, p.1 = P → p.2 = X.env.qual ++ "<lambda>")
    (hdef : defaultsOf params X.env = ([], [])) (M : LamMk G X j params body scope ixs) :
    DE G X S0 (.Lambda params body scope pos) (fun ρ S Q => bindO (snap ρ ixs) fun sn => ∀ f, S.mem f = none → S.lam f = none → Q (.ref f) (S.addLam f j sn)) := by
  refine ⟨fun pins s σ H ρ S Q I R h => ?_⟩
  obtain ⟨sn, hsn, h⟩ := bindO_some h
  obtain ⟨ld, hld, ea, eb, es, hlen, hall, hcap⟩ := M.ld
  have hfree : ∀ y ∈ scope.names, y.2 = .free → ∃ c, X.env.cells.lookup y.1 = some c := fun y hy e => by
    obtain ⟨k, hk⟩ := List.mem_iff_getElem?.mp (hall y hy e)
    obtain ⟨_, hv, _⟩ := hcap k y.1 hk
    rcases hv with q | q
    · exact I.ok.has _ (.inl q)
    · exact I.ok.has _ (.inr q)
  have cm : ∀ {y c}, (cloFrom X.env.cells scope.names []).lookup y = some c → X.env.cells.lookup y = some c ∧ (y, NameKind.free) ∈ scope.names := fun {y c} e => by
    rcases cloFrom_mem (PySem.mem_of_lookup e) with hm | ⟨h1, h2⟩
    · cases hm
    · obtain ⟨c1, hc⟩ := hfree _ h1 rfl
      have hc : X.env.cells.lookup y = some c1 := hc
      have e2 : c = c1 := by
        rw [h2, hc] <;> rfl
      rw [e2]
      exact ⟨hc, h1⟩
  have look : ∀ {y}, (y, NameKind.free) ∈ scope.names → ∃ c, (cloFrom X.env.cells scope.names []).lookup y = some c := fun {y} hy => mem_lookup (cloFrom_has (cells := X.env.cells) (acc := []) hy)
  -- what is known of the new one
  have made : ∀ (f c' : Addr) (pm ctv : Value) (H1 : Hp) (s' : Shared), Inv X pins σ H1 s' → (∀ a o, H a = some o → isTbl o = false → H1 a = some o) → (∀ a ps, H a = some (.tbl ps) → ∃ ps', H1 a = some (.tbl ps')) → LamX.Tabs G.tabs H1 →
      s'.heap.get? f = some (PySem.W.kla_obj "<lambda>" (X.env.qual ++ "<lambda>") params body scope (cloFrom X.env.cells scope.names []) pm c' ctv) → H1 f = none → s.heap.objs.size ≤ f → H1 c' = some (LamX.CodeO c' (X.env.qual ++ "<lambda>")) → DP G X S0 pins σ ρ H S Q (.ref f) s' := by
    intro f c' pm ctv H1 s' I1 k1 kt T1 hf hfn hsz hco
    have hfn0 : H f = none := I.hok.fresh hsz
    obtain ⟨ho, I2, u0, hho⟩ : ∃ ho, Inv X pins σ (upd H1 f ho) s' ∧ ∃ u0, ho = .frz (PySem.W.kla_obj "<lambda>" (X.env.qual ++ "<lambda>") params body scope (cloFrom X.env.cells scope.names []) pm c' ctv) u0 := ⟨_, inv_freeze I1 hf hfn (Nat.le_trans I.sz hsz) (Nat.ne_of_gt (Nat.lt_of_lt_of_le I.lt hsz)) (fun x c e => by
      obtain ⟨v, z⟩ := I.cell x c e
      exact Nat.ne_of_lt (Nat.lt_of_lt_of_le z.lt hsz)) (fun p hp => by
      obtain ⟨z, _⟩ := I.pin p hp
      exact Nat.ne_of_lt (Nat.lt_of_lt_of_le (Heap.lt_size z) hsz)), _, rfl⟩
    have k2 : ∀ a o, H a = some o → isTbl o = false → upd H1 f ho a = some o := fun a o e t => upd_grow hfn a o (k1 a o e t)
    have st : Step H S (upd H1 f ho) S := ⟨fun a o e _ t => k2 a o e t, fun a h => .inl h, fun a ps e => by
      obtain ⟨ps', e'⟩ := kt a ps e
      exact ⟨ps', upd_grow hfn a _ e'⟩⟩
    have hS : S.mem f = none := by
      cases e : S.mem f with
      | none => rfl
      | some o =>
        have z := R.mem f o e
        cases o with
        | lst ds => obtain ⟨vs, e1, _⟩ := z; rw [hfn0] at e1; cases e1
        | ro ds => obtain ⟨vs, ⟨ob, e1⟩, _⟩ := z; rw [hfn0] at e1; cases e1
        | dk kvs => obtain ⟨kws, e1, _⟩ := z; rw [hfn0] at e1; cases e1
    have hL : S.lam f = none := by
      cases e : S.lam f with
      | none => rfl
      | some o =>
        obtain ⟨k, sm⟩ := o
        obtain ⟨_, _, _, _, _, _, _, _, z, _⟩ := R.lam f k sm e
        rw [hfn0] at z; cases z
    have hl : LamAt G X σ (upd H1 f ho) f j sn := by
      refine ⟨ld, X.env.qual ++ "<lambda>", cloFrom X.env.cells scope.names [], pm, ctv, c', u0, hld, ?_, ?_, ⟨?_, fun x y c e1 e2 => I.ok.inj x y c (cm e1).1 (cm e2).1, fun y c e => hall _ (cm e).2 rfl⟩, fun k y ek => ?_⟩
      · rw [upd_same, ea, eb, es, hho]
      · exact upd_grow hfn _ _ hco
      · rw [snap_len hsn, hlen]
      · obtain ⟨hy, hv, i, hi, hN⟩ := hcap k y ek
        obtain ⟨d, e1, e2⟩ := snap_get hsn hi
        obtain ⟨v, e3, e4⟩ := R.env i d e2
        obtain ⟨c, hc⟩ := look hy
        exact ⟨c, d, hc, e1, .inl ⟨i, v, (cm hc).1, hv, hN, e3, Dat.mono st.k _ _ e4⟩⟩
    obtain ⟨R2, t2⟩ := R.lamNew st k2 (T1.ext (upd_grow hfn)) hl
    exact ⟨.ref f, _, .ref f, _, I2, rfl, rfl, R2, t2, h f hS hL⟩
  obtain ⟨ps, hP, ht, ha⟩ := R.tab _ hm
  refine PySem.W.kla_eval hdef ?_
  have bP : s.heap.BuiltinsAt X.mg P := TB.bm.keeps I.bk
  have hP' : s.heap.get? P = some { cls := .none, data := .fields ps } := I.hok P _ hP
  cases hc : codeAmong pos ps.toList with
  | none =>
    refine PySem.W.kla_makeFunction (mg := X.mg) (c := c) (P := P) (ps := ps) (closure_ok hfree) I.ok.glob (I.mod.glob.keeps I.bk) hcode (TB.code.keeps I.bk) hP' ht hc TB.gP bP fun c' ctv h' tk hx hge hlt hrec htb => ?_
    obtain ⟨c2, oc, vs, t, e2, hoc, hd, hv⟩ := hrec
    cases e2
    have hsz : s.heap.objs.size ≤ h'.objs.size := Nat.le_trans hge (Nat.le_of_lt hlt)
    have nC : H c' = none := I.hok.fresh hge
    have I1 := LamX.inv_table (t' := tk) (more := #[rawInt pos.line, rawInt pos.col, .ref c']) (h' := h'.push (PySem.W.kla_obj "<lambda>" (X.env.qual ++ "<lambda>") params body scope (cloFrom X.env.cells scope.names []) ((X.mg "__name__").getD .none) c' ctv)) I hP
      (fun b o hb e => Heap.get?_push_of_some _ (hx b o hb e)) (Heap.get?_push_of_some _ htb) hge ⟨oc, vs, t, Heap.get?_push_of_some _ hoc, hd, hv⟩
    have hE : ∀ b o, H b = some o → isTbl o = false → upd (upd H P (.tbl (ps ++ #[rawInt pos.line, rawInt pos.col, .ref c']))) c' (LamX.CodeO c' (X.env.qual ++ "<lambda>")) b = some o := fun b o e n => by
      rw [upd_ne (ne_of_none e nC), upd_ne (fun z => by rw [z, hP] at e; cases e; cases n)]
      exact e
    have eL : (ps ++ #[rawInt pos.line, rawInt pos.col, .ref c']).toList = ps.toList ++ [rawInt pos.line, rawInt pos.col, .ref c'] := by simp
    refine made h'.objs.size c' ((X.mg "__name__").getD .none) ctv _ _ I1 hE (fun a qs e => ?_) (fun p hp => ?_) (Heap.get?_push_size _ rfl) ?_ hsz upd_same
    · by_cases hb : a = P
      · exact ⟨_, by rw [hb, upd_ne (ne_of_none hP nC), upd_same]⟩
      · exact ⟨qs, by rw [upd_ne (ne_of_none e nC), upd_ne hb]; exact e⟩
    · by_cases hb : p.1 = P
      · rw [hu p hp hb, hb]
        refine ⟨_, by rw [upd_ne (ne_of_none hP nC), upd_same], by rw [eL]; exact PySem.TriplesOk_snoc _ _ _ _ ht, fun p' cv hcv => ?_⟩
        rw [eL] at hcv
        rcases LamX.among_app _ ht hcv with z | z
        · obtain ⟨c0, e1, e2⟩ := ha p' cv z
          exact ⟨c0, e1, hE _ _ e2 rfl⟩
        · exact ⟨c', z, upd_same⟩
      · obtain ⟨ps', a1, a2, a3⟩ := R.tab p hp
        refine ⟨ps', by rw [upd_ne (ne_of_none a1 nC), upd_ne hb]; exact a1, a2, fun p' cv hcv => ?_⟩
        obtain ⟨c0, e1, e2⟩ := a3 p' cv hcv
        exact ⟨c0, e1, hE _ _ e2 rfl⟩
    · have n1 : h'.objs.size ≠ c' := Nat.ne_of_gt hlt
      have n2 : h'.objs.size ≠ P := Nat.ne_of_gt (Nat.lt_of_lt_of_le (Heap.lt_size hP') hsz)
      rw [upd_ne n1, upd_ne n2]
      exact I.hok.fresh hsz
  | some cv =>
    obtain ⟨c', e, hco⟩ := ha pos cv hc
    subst e
    refine PySem.W.kla_makeFunctionHit (mg := X.mg) (c := c) (P := P) (ps := ps) (closure_ok hfree) I.ok.glob (I.mod.glob.keeps I.bk) hcode (TB.code.keeps I.bk) hP' ht hc bP fun ctv h' tk hx hsz => ?_
    have I1 : Inv X pins σ H { s with heap := h'.push (PySem.W.kla_obj "<lambda>" (X.env.qual ++ "<lambda>") params body scope (cloFrom X.env.cells scope.names []) ((X.mg "__name__").getD .none) c' ctv), toks := tk } := I.kept fun b o e => Heap.get?_push_of_some _ (hx b o e)
    exact made h'.objs.size c' ((X.mg "__name__").getD .none) ctv H _ I1 (fun _ _ e _ => e) (fun _ ps e => ⟨ps, e⟩) R.tab (Heap.get?_push_size _ rfl) (I.hok.fresh hsz) hsz hco
end

/-! ### lambdas, called -/
structure LamRun (G : GS) (P : Program) (w : World) (K : PySem.W.Frag) (mg : Str → Option Value) (base : Heap) (k : Nat) (j n : Nat) (C : FC) : Prop where
  len : ∀ ds S Q E, C ds S Q E → ds.length = n
  run : ∀ (A : Around) (outer : List Env) (s : Shared) (H : Hp) (f : Addr) (sn : List D) (us : List Value) (vs : List V) (ds : List D) (S : DS) (Q : QE) (E : EX), RoomD k A → Env0 P w K mg base A outer s H → LamF K G H s.heap f j sn → Vals vs us → Dats K G H ds vs → RepF K G H S s.heap → C (ds ++ sn) S Q E →
    codeAny (model P w) A (.call (.ref f) ⟨us, []⟩) (CRD G P w K outer H S s Q E) s
theorem caps_vals {K : PySem.W.Frag} {G : GS} {H : Hp} {h : Heap} {cs : List (Str × Addr)} : ∀ {caps : List Str} {sn : List D}, sn.length = caps.length → (∀ (i : Nat) (y : Str), caps[i]? = some y → ∃ c d u v, cs.lookup y = some c ∧ sn[i]? = some d ∧ h.IsCell c (some u) ∧ H c = none ∧ RelV v u ∧ Dat K G H d v) →
    ∃ ws : List V, ws.length = caps.length ∧ Dats K G H sn ws ∧ ∀ (i : Nat) (y : Str), caps[i]? = some y → ∃ c u v, cs.lookup y = some c ∧ h.IsCell c (some u) ∧ H c = none ∧ RelV v u ∧ ws[i]? = some v
  | [], sn, hl, _ => by
    have : sn = [] := List.eq_nil_of_length_eq_zero hl
    subst this
    exact ⟨[], rfl, rfl, fun i y e => by simp at e⟩
  | y :: caps, [], hl, _ => by simp at hl
  | y :: caps, d :: sn, hl, h => by
    obtain ⟨c, d', u, v, a1, a2, a3, a4, a5, a6⟩ := h 0 y rfl
    have e : d = d' := by simpa using a2
    subst e
    obtain ⟨ws, w1, w2, w3⟩ := caps_vals (caps := caps) (sn := sn) (by simpa using hl) fun i z ez => by
      obtain ⟨c, d, u, v, b1, b2, b3⟩ := h (i + 1) z (by simpa using ez)
      exact ⟨c, d, u, v, b1, by simpa using b2, b3⟩
    refine ⟨v :: ws, by simp [w1], Dats.cons a6 w2, fun i z ez => ?_⟩
    cases i with
    | zero =>
      have ez : y = z := by simpa using ez
      subst ez
      exact ⟨c, u, v, a1, a3, a4, a5, rfl⟩
    | succ i =>
      obtain ⟨c, u, v, b1, b2, b3, b4, b5⟩ := w3 i z (by simpa using ez)
      exact ⟨c, u, v, b1, b2, b3, b4, by simpa using b5⟩
theorem lamD_body {G : GS} {P : Program} {w : World} {K : PySem.W.Frag} {mg : Str → Option Value} {base : Heap} {k j : Nat} {ld : LamD} {N : List Str} {C : FC} (hj : G.lams[j]? = some ld) (Sc : NdefX.NScope N ld.ps ld.caps ld.scope)
    (hb : ∀ fd : FuncData, fd.params = ld.args → fd.defaults = .none → BindD fd ld.ps) (len : ∀ ds S Q E, C ds S Q E → ds.length = ld.ps.length + ld.caps.length)
    (hbody : ∀ (X : Cx) (S0 : DS) (E : EX), X.prog = P → X.w = w → X.K = K → X.mg = mg → X.base = base → X.N = N → X.env.scope = ld.scope → X.calm = true → RoomD k X.A → TakesE G X S0 (fgtE S0 E) → PassesOwn (model X.prog X.w) X.A X.env X.xe →
      ∃ t, DE G X S0 ld.body t ∧ ∀ ds Q, C ds S0 Q E → t (startR N ds) S0 (fgtQ S0 Q)) :
    LamRun G P w K mg base (k + 1) j (ld.ps.length + ld.caps.length) C := by
  refine ⟨len, fun A outer s H f sn us vs ds S Q E hr e0 hL r hd hR hC => ?_⟩
  obtain ⟨ld', q, cs, pm, ctv, c', u0, h1, h2, h3, ⟨h4, inj, dom⟩, h5⟩ := hL
  rw [hj] at h1; cases h1
  obtain ⟨ws, w1, w2, w3⟩ := caps_vals h4 h5
  have hl := len _ _ _ _ hC
  rw [List.length_append, h4] at hl
  have hlv : vs.length = ld.ps.length := by rw [← hd.length]; omega
  have hlu : us.length = ld.ps.length := by rw [← r.length, hlv]
  have lim : s.heap.NoLimit := e0.mod.nolimit.keeps fun b o e => (e0.bs b o e).1
  have of1 : s.heap.get? f = some (PySem.W.kla_obj "<lambda>" q ld.args ld.body ld.scope cs pm c' ctv) := (e0.hok f _ h2).1
  obtain ⟨⟨oc, vc, t, hoc, hdc, hvc⟩, _, _⟩ := e0.hok c' _ h3
  refine PySem.W.kla_callFunE hr.room.depth of1 rfl Sc.co Sc.gen rfl ⟨c', oc, vc, t, rfl, hoc, hdc, hvc⟩ ?_
  have hbind := hb (PySem.W.kla_fn "<lambda>" q ld.args ld.body ld.scope cs pm (.ref c') ctv) rfl rfl us [] (by simpa using hlu)
  rw [List.append_nil, List.zip_nil_right] at hbind
  rw [hbind]
  refine wpAny_pure (wpAny_newFunctionEnv Sc.nocell (fun y hy => Sc.par y.1 (List.of_mem_zip (show (y.1, y.2) ∈ ld.ps.zip us from hy)).1) (fun h₁ hns hsb => ⟨lim.fresh _ hsb, ?_⟩) Sc.kind)
  have kp : ∀ b o, s.heap.get? b = some o → h₁.get? b = some o := fun b o e => hsb.extBut b o (Nat.ne_of_lt (Heap.lt_size e)) (Heap.get?_push_of_some _ e)
  have CA : NdefX.CellsAt cs ld.caps (ws.map some) s.heap H := by
    refine ⟨by rw [List.length_map, w1], fun y c e => ?_, inj, fun i y e => ?_⟩
    · obtain ⟨i, hi⟩ := List.mem_iff_getElem?.mp (dom y c e)
      obtain ⟨c2, u, v, b1, b2, b3, b4, b5⟩ := w3 i y hi
      rw [e] at b1; cases b1
      exact ⟨b3, _, b2⟩
    · obtain ⟨c, u, v, b1, b2, b3, b4, b5⟩ := w3 i y e
      refine ⟨c, b1, fun v' ev => ⟨u, ?_, b2⟩⟩
      rw [List.getElem?_map, b5] at ev
      cases ev
      exact b4
  have es : NdefX.startF N vs (ws.map some) = L2.start N (vs ++ ws) := by
    unfold NdefX.startF L2.start
    rw [List.map_append, List.append_assoc, List.length_append, List.length_map, Nat.sub_sub]
  let F : NdefX.NF := ⟨"<lambda>", q, ld.args, [], ld.scope, cs, c'⟩
  have I : Inv (NdefX.ncx (L2.CX P w) P w K mg base N F f A outer s H (EXK K G H S E)) [] (L2.start N (vs ++ ws)) H { s with heap := h₁, toks := s.toks + (ld.ps.zip us).length } := by
    rw [← es]
    exact NdefX.inv_startN (F := F) Sc hr.room.hd e0 hlv r CA hns kp
  have R : Rep G (NdefX.ncx (L2.CX P w) P w K mg base N F f A outer s H (EXK K G H S E)) S (L2.start N (vs ++ ws)) H (startR N (ds ++ sn)) S := Rep.startX hR (hd.append w2) rfl rfl rfl rfl
  have tk : TakesE G (NdefX.ncx (L2.CX P w) P w K mg base N F f A outer s H (EXK K G H S E)) S E := (takes_of (X := NdefX.ncx (L2.CX P w) P w K mg base N F f A outer s H (EXK K G H S E)) (E := EXK K G H S E) rfl rfl rfl rfl).imp fun cls d σ H' z => z
  obtain ⟨t, ht, hq⟩ := hbody (NdefX.ncx (L2.CX P w) P w K mg base N F f A outer s H (EXK K G H S E)) S E rfl rfl rfl rfl rfl rfl rfl rfl (hr.deeper _) (takes_fgt tk) (passes_of rfl)
  show codeAny _ _ (.expr ld.body (NdefX.envF F f s.heap.objs.size)) _ _
  refine PySem.W.kla_codeExpr (wpAny_mono (ht.run [] _ _ H _ S _ I R (hq _ _ hC)) (fun v s' hs => ?_) fun e s' hs => hs)
  obtain ⟨x, H', d, S', J, rv, hd', R', t', S2, l, q'⟩ := hs
  exact ⟨x, H', d, S2, J.os, J.bare, J.base, J.hok, rv, hd', memR_le R'.mem l.mem, R'.tab, step_le t' l.mem, q'⟩
section
variable {G : GS} {X : Cx} {S0 : DS} {σ : L2.St} {H H' : Hp} {ρ : Rho} {S S' : DS} {s : Shared} {pins : List (Addr × Obj)}
theorem fnAt_lam {f : Addr} {j : Nat} {sn : List D} (I : Inv X pins σ H s) (h : LamF X.K G H s.heap f j sn) : PySem.W.FnAt f s.heap := by
  obtain ⟨ld, q, cs, pm, ctv, c', u0, h1, h2, h3, h4, h5⟩ := h
  exact ⟨_, _, _, _, (I.hok f _ h2).1⟩
theorem run_lam {E' : EX} {k j n : Nat} {f : Addr} {sn : List D} {C : FC} {us : List Value} {vs : List V} {ds : List D} {Q : QE} (L : LamRun G X.prog X.w X.K X.mg X.base k j n C) (hr : RoomD k X.A) (tk : TakesE G X S0 E')
    (I : Inv X pins σ H s) (R : Rep G X S0 σ H ρ S) (hl : S.lam f = some (j, sn)) (r : Vals vs us) (hd : Dats X.K G H ds vs) (h : C (ds ++ sn) S Q (errTo E' S0)) : wpAny (model X.prog X.w) X.A (call (.ref f) us) (DP G X S0 pins σ ρ H S Q) X.xe s := by
  refine wpAny_call (codeAny_mono (L.run X.A X.stack s H f sn us vs ds S Q (errTo E' S0) hr I.env0 ((R.lam f j sn hl).now I) r hd (R.repF I) h) fun r s' hq => ?_)
  cases r with
  | error e => exact call_err tk (fun _ _ _ z => z) I R hq
  | ok fl =>
    cases fl with
    | ret u => exact after_call I R hq
    | next => exact False.elim hq
    | brk => exact False.elim hq
    | cont => exact False.elim hq
variable {e : Expr} {es : List Expr} {t : DTA} {tv : DT} {p pos : Pos} {x : Str} {E' : EX} {k : Nat} {LC : Nat → Option (Nat × FC)}
theorem de_lam0 (hL : ∀ j n C, LC j = some (n, C) → LamRun G X.prog X.w X.K X.mg X.base k j n C) (hr : RoomD k X.A) (tk : TakesE G X S0 E') (hv : DE G X S0 (.Name x p) tv) :
    DE G X S0 (.Call (.Name x p) [] [] pos) (fun ρ S Q => tv ρ S fun d S1 => ∃ f, d = .ref f ∧ bindO (S1.lam f) fun q => ∃ n C, LC q.1 = some (n, C) ∧ C q.2 S1 Q (errTo E' S0)) := by
  refine ⟨fun pins s σ H ρ S Q I R h => ?_⟩
  refine wpAny_Call_Name_kw (thn (hv.run pins s σ H ρ S _ I R h) fun u s1 ⟨v, H1, d, S1, I1, r1, h1, R1, t1, q1⟩ => ?_)
  obtain ⟨f, rfl, q1⟩ := q1
  obtain ⟨⟨j, sn⟩, e1, n, C, e2, q1⟩ := bindO_some q1
  cases (show v = .ref f from h1)
  obtain rfl : u = Value.ref f := r1
  exact PySem.W.callWith_F0 (fnAt_lam I1 ((R1.lam f j sn e1).now I1)) (thn (run_lam (hL j n C e2) hr tk I1 R1 e1 .nil (ds := []) rfl q1) fun _ _ z => z.after t1)
theorem de_lamA (hL : ∀ j n C, LC j = some (n, C) → LamRun G X.prog X.w X.K X.mg X.base k j n C) (hr : RoomD k X.A) (tk : TakesE G X S0 E') (hv : DE G X S0 (.Name x p) tv) (ha : DA G X S0 (e :: es) t) (hs : (e :: es).all (fun e => !isStar e) = true) :
    DE G X S0 (.Call (.Name x p) (e :: es) [] pos) (fun ρ S Q => tv ρ S fun d S1 => ∃ f, d = .ref f ∧ (S1.lam f).isSome = true ∧ t ρ S1 fun ds S2 => bindO (S2.lam f) fun q => ∃ n C, LC q.1 = some (n, C) ∧ C (ds ++ q.2) S2 Q (errTo E' S0)) := by
  refine ⟨fun pins s σ H ρ S Q I R h => ?_⟩
  simp only [List.all_cons, Bool.and_eq_true, Bool.not_eq_true'] at hs
  refine wpAny_Call_Name_kw (thn (hv.run pins s σ H ρ S _ I R h) fun u s1 ⟨v, H1, d, S1, I1, r1, h1, R1, t1, q1⟩ => ?_)
  obtain ⟨f, rfl, q0, q1⟩ := q1
  obtain ⟨⟨j0, sn0⟩, e0⟩ := Option.isSome_iff_exists.mp q0
  cases (show v = .ref f from h1)
  obtain rfl : u = Value.ref f := r1
  refine PySem.W.callWith_F (fnAt_lam I1 ((R1.lam f j0 sn0 e0).now I1)) (thn (ha.run pos pins s1 σ H1 ρ S1 _ I1 R1 q1) fun us s2 ⟨vs, H2, ds, S2, I2, r2, h2, R2, t2, q2⟩ => ?_) (star_cons hs.1) (star_none hs.2 pos)
  obtain ⟨⟨j, sn⟩, e1, n, C, e2, q2⟩ := bindO_some q2
  exact ⟨fnAt_lam I2 ((R2.lam f j sn e1).now I2), thn (run_lam (hL j n C e2) hr tk I2 R2 e1 r2 h2 q2) fun _ _ z => z.after (t1.trans t2)⟩
end
end DL

/-! errors of the program: class FenceError(ValueError) with super().__init__(value); self.value = value, and its subclasses -/
namespace DX
open PySem PySem.W PySem.Calls PyProof.Rows PySem.HandSPX
/-! ### the text of __init__ -/
def iA (p1 p2 : Pos) : Arguments := { posonlyargs := [], args := [{ arg := "self", annotation := none, pos := p1 }, { arg := "value", annotation := none, pos := p2 }], vararg := none, kwonlyargs := [], kw_defaults := [], kwarg := none, defaults := [] }
def iB (q1 q2 q3 q4 q5 q6 r1 r2 r3 r4 : Pos) : List Stmt := [.Expr (.Call (.Attribute (.Call (.Name "super" q1) [] [] q2) "__init__" q3) [.Name "value" q4] [] q5) q6, .Assign [.Attribute (.Name "self" r1) "value" r2] (.Name "value" r3) r4]
structure ScI (sc : Scope) : Prop where
  kind : sc.kind = .function
  co : sc.isCoroutine = false
  gen : sc.isGenerator = false
  cell : ∀ x ∈ sc.names, x.2 ≠ .cell
  self : sc.names.lookup ("self" : Str) = some .local
  value : sc.names.lookup ("value" : Str) = some .local
  super : sc.names.lookup ("super" : Str) = some .globalImplicit
  cls : sc.names.lookup ("__class__" : Str) = some .free
/-- FenceError, at D: its __init__ at fI, the cell of __class__ at cc -/
structure FenTxt (prog : Program) (K : Frag) (mg : Str → Option Value) (D fI cc : Addr) : Prop where
  fn : ∃ (oc : Value) (od : Option Addr) (doc pm : Value) (an : Option Addr) (cda : Addr) (ct : Value) (osl : Array (Option Value)) (p1 p2 q1 q2 q3 q4 q5 q6 r1 r2 r3 r4 : Pos) (sc : Scope) (ccl : Value) (cdd : Option Addr) (vs : Array Value) (ccs : Array (Option Value)) (file : Str) (tf : Tok),
    ScI sc ∧ K.lookup fI = some ⟨oc, od, .func (ksFn "__init__" "FenceError.__init__" (iA p1 p2) (iB q1 q2 q3 q4 q5 q6 r1 r2 r3 r4) sc .none .none doc pm an (.ref cda) ct cc), osl⟩ ∧ codeIn K (.ref cda) "FenceError.__init__" = true ∧
    K.lookup cda = some ⟨ccl, cdd, .fields vs, ccs⟩ ∧ vs[2]? = some (.str file tf) ∧ ((prog.main.file : Str) == file) = true ∧ (q3.endLine == q5.line) = true ∧ True
  cell : ∃ cl cld csl, K.lookup cc = some ⟨cl, cld, .cell (some (.ref D)), csl⟩
  cls : ∃ cdD, clsIn K D = some cdD
  sup : mg "super" = none
  top : (prog.main.scope.names.lookup ("super" : Str)).isSome = false
  stat : nsIn K cStatics "thirdparty.any" = some none
/-- a class of such errors, at C -/
structure OwnTxt (K : Frag) (D fI C : Addr) : Prop where
  cls : ∃ nm q N bs bm sn sub ab col dd k0 k1 k2 k3 k5, K.lookup C = some (excClassObj nm q C N bs bm true sn sub ab col dd k0 k1 k2 k3 k5 "ValueError.__new__") ∧ refsVE bm = true
  sa : findIn K (.ref C) "__setattr__" = some (some (.builtin "object.__setattr__"))
  ga : findIn K (.ref C) "__getattribute__" = some (some (.builtin "BaseException.__getattribute__"))
  gg : findIn K (.ref C) "__getattr__" = some none
  noN : findIn K (.ref C) "value" = some none
  iC : findIn K (.ref C) "__init__" = some (some (.ref fI))
  tC : typeIn K (.ref fI) = some (.type "function")
  kC : keepIn K (.ref C) = true
  exC : subIn K (.ref C) (.type "BaseException") = some true
  veC : subIn K (.ref C) (.type "ValueError") = some true
  tyC : typeIn K (.ref C) = some (.type "type")
  hdC : hasDictIn K C = true
  mro : mroIn K C (.ref D) = some true
  sup : ks_superIn K C D "__init__" = some (some (.builtin "ValueError.__init__"))
theorem one_size (v : Value) : [v].length ≤ sizeLine := by
  rw [sizeLine_eq]
  exact (by decide : 1 ≤ 16777216)
/-- what __init__ leaves of a fresh exception at x -/
structure InitEnd (h h' : Heap) (x C dx t1 : Addr) (v : Value) : Prop where
  keep : ∀ b o, b ≠ x → h.get? b = some o → h'.get? b = some o
  obj : h'.get? x = some { cls := .ref C, dict := some dx, data := .fields #[.ref t1, .none, .none, .none, .bool false, .none] }
  dbig : h.objs.size ≤ dx
  dne : dx ≠ x
  ns : h'.Ns1 dx (fun y => if y = "value" then some v else none)
/-- a made error -/
structure OwnMade (h h' : Heap) (e C d : Addr) (v : Value) : Prop where
  keep : ∀ b o, h.get? b = some o → h'.get? b = some o
  new : h.objs.size ≤ e
  obj : ∃ oe vs, h'.get? e = some oe ∧ oe.cls = .ref C ∧ oe.dict = some d ∧ oe.data = .fields vs ∧ vs[1]? = some .none
  dbig : h.objs.size ≤ d
  dne : d ≠ e
  ns : h'.Ns1 d (fun y => if y = "value" then some v else none)
/-- the globals as they are at a call -/
structure Globs (mg : Str → Option Value) (h : Heap) : Prop where
  glob : h.Ns mainGlobals mg
  blt : ∃ mb, h.Ns builtinsNs mb ∧ ∀ x : Str, x ≠ "__name__" → mb x = bootBuiltins x
theorem Globs.keeps {mg : Str → Option Value} {h h' : Heap} (G : Globs mg h) (k : ∀ b o, h.get? b = some o → h'.get? b = some o) : Globs mg h' := by
  obtain ⟨g, mb, b1, b2⟩ := G
  exact ⟨g.keeps k, mb, b1.keeps k, b2⟩
theorem wpAt_methodCall {prog : Program} {w : World} {A : Around} {c : Code} {E : Value → Shared → Prop} {s : Shared} {env : Env} {o e : Expr} {name : Str} {apos pos : Pos} {Q : Value → Shared → Prop} (hline : (apos.endLine == pos.line) = true) (he : starEach [e] env = [(false, eval e env)])
    (h : _root_.PySem.wpAt (model prog w) A c (attributeBase o name env (eval o env)) (fun ov s₁ => wpAny (model prog w) A (getMethod ov name (do return (← importBound o env).getD true)) (fun fx s₂ => wpAny (model prog w) A (callWith pos fx.1 fx.2 (backTo pos (starEach [e] env)) []) Q E s₂) E s₁) E s) :
    _root_.PySem.wpAt (model prog w) A c (eval (.Call (.Attribute o name apos) [e] [] pos) env) Q E s := by
  rw [arm_eval_Call]
  refine _root_.PySem.wpAt_bind (_root_.PySem.wpAt_mono h (fun ov s₁ h₁ => _root_.PySem.wpAt_of_wpAny (wpAny_bind (wpAny_standAt ?_))) fun _ _ x => x)
  have hform : methodCallForm ([e].length + ([] : List Keyword).length) (backTo pos (starEach [e] env)) (backToKw pos (keywordEach [] env)) = true := by rw [he]; rfl
  have hpos : methodCallPos true o env apos pos = pure pos := by unfold methodCallPos; simp [hline]
  unfold methodCall
  rw [hform]
  refine wpAny_bind (wpAny_holding (wpAny_mono h₁ (fun fx s₂ h₂ => ?_) fun _ _ x => x))
  exact wpAny_bind (wpAny_of_eq hpos h₂)
section
variable {prog : Program} {w : World} {A : Around} {E : Value → Shared → Prop} {R : Result → Shared → Prop} {s : Shared} {K : Frag} {mg : Str → Option Value} {C D fI cc : Addr}
theorem call_mw {h : Heap} {g : Array GenState} {d : Drawn} {t : Nat} {os : OsState} {u e t0 : Addr} {rest : List Value} {Q : Value → Shared → Prop} {nm q : Str} {N : Addr} {bs bm : List Value} {hdct : Bool} {sn : List Str} {sub : List Value} {ab : Bool} {col : Option Bool} {dd : Option Addr} {k0 k1 k2 k3 k5 : Option Value}
    (hC : h.get? C = some (excClassObj nm q C N bs bm hdct sn sub ab col dd k0 k1 k2 k3 k5 "ValueError.__new__")) (he : h.get? e = some (excO C t0)) (hu : h.get? u = some (kxs_mw "ValueError.__init__" e)) (hrest : rest.length ≤ sizeLine)
    (hq : ∀ h' t1, (∀ b o, b ≠ e → h.get? b = some o → h'.get? b = some o) → h'.get? e = some (excO C t1) → Q .none ⟨h', g, d, t, os⟩) :
    wpAny (model prog w) A (call (.ref u) rest) Q E ⟨h, g, d, t, os⟩ := by
  refine wpAny_call (codeAny_of_tree ?_)
  show wpAny _ A.in1 (callAny (.ref u) ⟨rest, []⟩) _ _ _
  simp only [callAny]
  refine wpAny_bind (wpAny_load hu ?_)
  simp only [kxs_mw, show (Value.type "method-wrapper" == Value.type "method" || Value.type "method-wrapper" == Value.type "builtin_function_or_method" || Value.type "method-wrapper" == Value.type "method-wrapper") = true by decide, if_true]
  refine KFB.if_so (by decide) ?_
  refine wpAny_bind (check_bound_init PySem.F.excBase_ValueError.toExcCallFacts hC he rfl ?_)
  refine wpAny_bind (wpAny_pure (wpAny_pure ?_))
  refine ⟨plainId_quiet PySem.F.excBase_ValueError.init.plain _, codeAny_builtin PySem.F.excBase_ValueError.initEntry ?_⟩
  exact exc_init_tree (cls := .ref C) (t0 := t0) (dv := none) (c2 := .none) (c3 := .none) (b4 := .bool false) he hrest fun h' k e1 _ => hq h' h.objs.size k e1
theorem fen_init (T : FenTxt prog K mg D fI cc) (O : OwnTxt K D fI C) {x t0 : Addr} {v : Value} (X : K.In s.heap) (G : Globs mg s.heap) (hlim : s.heap.NoLimit) (hx : s.heap.get? x = some (excO C t0)) (hnx : K.lookup x = none) (hroom : A.depth < recursionLimit)
    (hq : ∀ h' tk dx t1, InitEnd s.heap h' x C dx t1 v → R (.ok (.ret .none)) { s with heap := h', toks := tk }) :
    codeAny (model prog w) A (.call (.ref fI) ⟨[.ref x, v], []⟩) R s := by
  obtain ⟨oc, od, doc, pm, an, cda, ct, osl, p1, p2, q1, q2, q3, q4, q5, q6, r1, r2, r3, r4, sc, ccl, cdd, vs, ccs, file, tf, sci, ho, hcd, hcda, hvs, hfile, hln, _⟩ := T.fn
  obtain ⟨cl, cld, csl, hcell⟩ := T.cell
  obtain ⟨cdD, hD⟩ := T.cls
  obtain ⟨nm, q, N, bs, bm, sn, sub, ab, col, dd, k0, k1, k2, k3, k5, hC, hbm⟩ := O.cls
  have hcl : clsIn K C = some { name := nm, bases := bs, mro := .ref C :: bm, ns := N, qualname := q, hasDict := true, slotNames := sn, subclasses := sub, abstract := ab, collection := col, hasDel := false } := by unfold clsIn; rw [hC] <;> rfl
  refine ks_codeAny_call_defAt (binds := [("self", .ref x), ("value", v)]) hroom (X _ _ ho) rfl hlim (codeRec_of X hcd) rfl (BindsTo.of_eq (by first | rfl | with_unfolding_all rfl)) sci.cell (fun y hy => ?_) (fun h₁ hns k => ?_) sci.co sci.gen sci.kind
  · have : y = ((("self" : Str), Value.ref x) : Str × Value) ∨ y = ((("value" : Str), v) : Str × Value) := by simpa using hy
    rcases this with rfl | rfl
    · exact sci.self
    · exact sci.value
  have hxL : s.heap.objs.size ≠ x := Nat.ne_of_gt (Heap.lt_size hx)
  have X₁ : K.In h₁ := X.keeps k
  have G₁ := G.keeps k
  have hx₁ := k _ _ hx
  show _root_.PySem.wpAt _ _ (.func _ (ksEnv "FenceError.__init__" sc s.heap.objs.size fI (.ref cda) cc)) (execs _ (ksEnv "FenceError.__init__" sc s.heap.objs.size fI (.ref cda) cc)) _ _ _
  refine ks_wpAt_execs_cons (ks_wpAt_Expr_any (wpAt_methodCall hln rfl ?_) (by unfold interactive; rw [show (ksEnv "FenceError.__init__" sc s.heap.objs.size fI (.ref cda) cc).scope.kind = .function from sci.kind]; rfl))
  refine ks_wpAt_super_base (env := ksEnv "FenceError.__init__" sc s.heap.objs.size fI (.ref cda) cc) sci.super sci.cls (by decide) rfl (X₁ _ _ ho) rfl rfl rfl (X₁ _ _ hcda) rfl hvs hfile T.top ?_
  obtain ⟨oD, hD1, hD2⟩ : ∃ oD, h₁.get? D = some oD ∧ oD.data = .cls cdD := by
    unfold clsIn at hD
    split at hD
    · rename_i c d cd' sl ho
      cases hD
      exact ⟨_, X₁ _ _ ho, rfl⟩
    · cases hD
  obtain ⟨mb, hb1, hb2⟩ := G₁.blt
  refine ks_loadName_global sci.kind sci.super (loadGlobal_builtin (env := ksEnv "FenceError.__init__" sc s.heap.objs.size fI (.ref cda) cc) G₁.glob T.sup hb1 ((hb2 _ (by decide +kernel)).trans (by first | rfl | kernel_rfl)) ⟨rfl, ?_⟩)
  refine wpAny_loadName_free sci.kind sci.cls rfl ⟨_, X₁ _ _ hcell, rfl⟩ ?_
  refine wpAny_loadName_local sci.kind sci.self hns (v := .ref x) (by first | rfl | kernel_rfl) ?_
  refine ks_wpAny_isType_cls hD1 hD2 ⟨rfl, ?_⟩
  refine ks_wpAny_call_super hD1 hD2 hx₁ rfl (fun c e => by cases e) (looks_mroIn X₁ O.mro) (fun h₂ e₂ k₂ => ?_)
  have X₂ : K.In h₂ := X₁.keeps k₂
  have hx₂ := k₂ _ _ hx₁
  have hxC : x ≠ C := fun z => by
    have q := X₂ _ _ hC
    rw [← z, hx₂] at q
    cases q
  -- super().__init__
  have hI : Looks (model prog w) h₂ (isInstance (.ref x) (.type "ValueError")) true := (show InstAt h₂ x (excO C t0) C none from ⟨hx₂, rfl, rfl, trivial⟩).type.andThen (looks_subIn X₂ O.veC)
  have hsup := O.sup
  unfold ks_superIn at hsup
  rw [hcl] at hsup
  refine kxs_getMethod kxs_ValueError e₂ (looks_opaque X₂ T.stat) (l₀ := .ref C :: bm) (fun A Q E s k q => wpAny_bind ((looks_clsIn X₂ hcl) A _ E s k (wpAny_pure q))) rfl X₂ hsup hI hxC (by decide) ?_
  have k₃ : ∀ b o, h₂.get? b = some o → (h₂.push (kxs_mw "ValueError.__init__" x)).get? b = some o := fun b o e => Heap.get?_push_of_some _ e
  have X₃ := X₂.keeps k₃
  have hx₃ := k₃ _ _ hx₂
  have hu : (h₂.push (kxs_mw "ValueError.__init__" x)).get? h₂.objs.size = some (kxs_mw "ValueError.__init__" x) := Heap.get?_push_size _ rfl
  have hn₃ : (h₂.push (kxs_mw "ValueError.__init__" x)).Ns s.heap.objs.size (fun y => ([("self", .ref x), ("value", v)] : List (Str × Value)).reverse.lookup y) := (hns.keeps k₂).keeps k₃
  refine kxs_callWith (i := "ValueError.__init__") (x := x) rfl (evalArgs_plain ?_)
  refine Calls.spliced_cons ?_
  refine wpAny_Name (wpAny_loadName_local (v := v) sci.kind sci.value hn₃ (by first | rfl | kernel_rfl) (Calls.spliced_nil ⟨hu, ?_⟩)) (by decide)
  have hC₃ := X₃ _ _ hC
  refine call_mw hC₃ hx₃ hu (one_size v) fun h₄ t1 k₄ hx₄ => ?_
  have hLne : s.heap.objs.size ≠ x := hxL
  have X₄ : K.In h₄ := fun a o e => by
    refine k₄ a o (fun z => ?_) (X₃ a o e)
    rw [z, hnx] at e
    cases e
  have hn₄ : h₄.Ns s.heap.objs.size (fun y => ([("self", .ref x), ("value", v)] : List (Str × Value)).reverse.lookup y) := hn₃.at fun o e => k₄ _ _ hLne e
  -- self.value = value
  show _root_.PySem.wpAt _ _ _ (execs _ _) _ _ _
  refine ks_wpAt_execs_cons (ks_wpAt_Assign_Attr ?_)
  refine _root_.PySem.wpAt_of_wpAny ?_
  refine wpAny_Name (wpAny_loadName_local (v := v) sci.kind sci.value hn₄ (by first | rfl | kernel_rfl) ?_) (by decide)
  refine wpAny_Name (wpAny_loadName_local (v := .ref x) sci.kind sci.self hn₄ (by first | rfl | kernel_rfl) ?_) (by decide)
  refine set_plain X₄ (ox := excO C t1) (od := none) ⟨hx₄, rfl, rfl, trivial⟩ O.sa ?_
  refine exc_osa X₄ hx₄ hcl (show refsVE (.ref C :: bm) = true from hbm) rfl O.noN (fun h₅ tk₅ dx k₅ dn dne hx₅ hn₅ => ?_)
  show _root_.PySem.wpAt _ _ _ (execs _ _) _ _ _
  refine _root_.PySem.wpAt_of_wpAny (wpAny_execs_nil (hq h₅ tk₅ dx t1 ⟨fun b o hb e => k₅ b o hb (k₄ b o hb (k₃ b o (k₂ b o (k b o e)))), hx₅, Nat.le_of_lt (Nat.lt_of_lt_of_le hn₄.lt dn), dne, hn₅⟩))
theorem fen_made (T : FenTxt prog K mg D fI cc) (O : OwnTxt K D fI C) {v : Value} (X : K.In s.heap) (G : Globs mg s.heap) (hlim : s.heap.NoLimit) (hroom : A.depth + 1 < recursionLimit)
    (hq : ∀ h' tk e d, OwnMade s.heap h' e C d v → R (.ok (.ret (.ref e))) { s with heap := h', toks := tk }) :
    codeAny (model prog w) A (.call (.ref C) ⟨[v], []⟩) R s := by
  obtain ⟨nm, q, N, bs, bm, sn, sub, ab, col, dd, k0, k1, k2, k3, k5, hC, hbm⟩ := O.cls
  obtain ⟨hp, g, dr, tk, os⟩ := s
  have k : ∀ b o, hp.get? b = some o → ((hp.push (kdv_tup [v])).push (excO C hp.objs.size)).get? b = some o := fun b o e => Heap.get?_push_of_some _ (Heap.get?_push_of_some _ e)
  have hget : ((hp.push (kdv_tup [v])).push (excO C hp.objs.size)).get? (hp.objs.size + 1) = some (excO C hp.objs.size) := by heap_get
  have hnx : K.lookup (hp.objs.size + 1) = none := by
    cases e : K.lookup (hp.objs.size + 1) with
    | none => rfl
    | some o =>
      have z : hp.get? (hp.objs.size + 1) = some o := X _ _ e
      exact absurd (Nat.lt_of_succ_lt (Heap.lt_size z)) (Nat.lt_irrefl _)
  refine call_own PySem.F.excBase_ValueError (fun X => refsVE_contains X bm hbm) (X _ _ hC) (looks_findIn X O.iC) (fun self => bind_fn X self O.tC) (one_size v) ?_
  refine fen_init (s := ⟨(hp.push (kdv_tup [v])).push (excO C hp.objs.size), g, dr, tk, os⟩) T O (X.keeps k) (G.keeps k) (hlim.keeps k) hget hnx ?_ fun h' tk' dx t1 ⟨k', hx, dn, dne, hns⟩ => ?_
  · show A.depth + 1 < recursionLimit
    exact hroom
  · have old : ∀ b o, hp.get? b = some o → h'.get? b = some o := fun b o e => k' b o (Nat.ne_of_lt (Nat.lt_succ_of_lt (Heap.lt_size e))) (k b o e)
    have z : hp.objs.size + 1 + 1 ≤ dx := by
      first
        | (simpa only [Heap.size_push] using dn)
        | exact dn
        | (have q := dn; rw [Heap.size_push, Heap.size_push] at q; exact q)
    exact ⟨rfl, hq h' tk' (hp.objs.size + 1) dx ⟨old, Nat.le_succ _, ⟨_, _, hx, rfl, rfl, rfl, rfl⟩, Nat.le_trans (Nat.le_trans (Nat.le_succ _) (Nat.le_succ _)) z, dne, hns⟩⟩
end
end DX
namespace DL
open PySem PySem.Spec PyProof.Rows L2
theorem relO_value {v : V} {v' : Value} (r : RelV v v') (f : Str) : RelO (List.lookup f [(("value" : Str), v)]) (if f = "value" then some v' else none) := by
  by_cases hw : f = "value"
  · subst hw
    rw [if_pos rfl]
    have q : List.lookup ("value" : Str) [(("value" : Str), v)] = some v := by simp [List.lookup]
    rw [q]
    exact r
  · rw [if_neg hw]
    have qw : (f == ("value" : Str)) = false := by simpa using hw
    have q2 : List.lookup f [(("value" : Str), v)] = none := by simp [List.lookup, qw]
    rw [q2]
    trivial
section
variable {G : GS} {X : Cx} {S0 : DS} {σ : L2.St} {H H' : Hp} {ρ : Rho} {S S' : DS} {s : Shared} {pins : List (Addr × Obj)} {E : EX}
theorem ds_raise {x : Str} {F fI cc : Addr} {a : Expr} {ta : DT} {p pos pos2 : Pos} {k : Nat} (hc : X.calm = true) (T : DX.FenTxt X.prog X.K X.mg F fI cc) (O : DX.OwnTxt X.K F fI (G.cl x)) (hx : X.mg x = some (.ref (G.cl x))) (hr : RoomD k X.A) (tk : TakesE G X S0 E) (ha : DE G X S0 a ta) (hst : isStar a = false) (hg : Gl X x) (hdb : (x == ("__debug__" : Str)) = false) :
    DSt G X S0 (.Raise (some (.Call (.Name x p) [a] [] pos)) none pos2) (fun _ ρ S => ta ρ S fun d S1 => E x d (S1.back S0)) := by
  refine ⟨fun pins s σ H ρ S D I R h => ?_⟩
  have mk : wpAny (model X.prog X.w) X.A (eval (.Call (.Name x p) [a] [] pos) X.env) (MkP X pins σ (fun cls dd H' => WE G X S0 E cls dd σ H')) X.xe s := by
    refine wpAny_Call_Name_kw (ld_glob I hg hx ?_ hdb)
    refine PySem.W.callWith_K (h₀ := X.base) I.ok.mod.kin O.kC ?_ (star_cons hst) rfl
    rw [star_cons hst]
    refine Calls.spliced_cons (thn (ha.run pins s σ H ρ S _ I R h) fun v' s1 ⟨v, H1, d, S1, I1, rv, h1, R1, t1, q1⟩ => ?_)
    refine Calls.spliced_nil ⟨I1.kIn, ?_⟩
    show wpAny _ _ (call (.ref (G.cl x)) [v']) _ _ _
    have hlim := I1.nolimit
    have hG : DX.Globs X.mg s1.heap := by
      obtain ⟨mb, b1, b2⟩ := I1.mod.blt
      exact ⟨I1.mod.glob.keeps I1.bk, mb, b1.keeps I1.bk, b2⟩
    obtain ⟨hp, g, dr, tk, os⟩ := s1
    refine wpAny_call (DX.fen_made T O I1.kIn hG hlim (by have := hr.room.dp; omega) fun h' tk' e d' M => ?_)
    show MkP X pins σ _ (.ref e) ⟨h', g, dr, tk', os⟩
    obtain ⟨oe, fv, hoe, hcl, hd, hdat, hv1⟩ := M.obj
    have hns := M.ns
    obtain ⟨G', g1, g2⟩ := restrict h' fun b => decide (b ≠ e)
    have gk : ∀ b, b ≠ e → G'.get? b = h'.get? b := fun b hb => g1 b (decide_eq_true hb)
    have ge : G'.get? e = none := g2 e (by simp)
    have old : ∀ b o, hp.get? b = some o → G'.get? b = some o := fun b o q => (gk b (Nat.ne_of_lt (Nat.lt_of_lt_of_le (Heap.lt_size q) M.new))).trans (M.keep b o q)
    have ob : ObjOk X.prog X.w (upd H1 d' (.xd [(("value" : Str), v)])) G' d' (.xd [(("value" : Str), v)]) :=
      ⟨_, hns.at (fun o q => (gk d' M.dne).trans q), fun f => relO_value rv f⟩
    have J : Inv X pins σ (upd H1 d' (.xd [(("value" : Str), v)])) ⟨G', g, dr, tk', os⟩ := I1.laid (t' := tk') old M.dbig ob
    have hn : H1 d' = none := I1.hok.fresh M.dbig
    have k2 : ∀ a o, H1 a = some o → upd H1 d' (.xd [(("value" : Str), v)]) a = some o := upd_grow hn
    obtain ⟨R2, t2⟩ := R1.grow k2
    refine ⟨e, oe, fv, ⟨G', g, dr, tk', os⟩, _, .ref (G.cl x), some d', rfl, J, fun b o q => ?_, ge, hoe, ⟨hcl, hd⟩, hdat, hv1, ?_, rfl, I1.bare, raises_own O.exC O.tyC, ?_⟩
    · by_cases hb : b = e
      · have q' : G'.get? b = some o := q
        rw [hb, ge] at q'; cases q'
      · exact (gk b hb).symm.trans q
    · rw [upd_ne (Ne.symm M.dne)]
      exact I1.hok.fresh M.new
    · exact ⟨x, d', v, d, S1, rfl, rfl, upd_same, Dat.mono (fun a o _ e => k2 a o e) _ _ h1, R2.mem, R2.tab, R.st.trans (t1.trans t2), q1⟩
  show wpAny _ _ (do standAt pos2; raiseStmt X.env (some (do let v ← eval (.Call (.Name x p) [a] [] pos) X.env; standAt pos2; pure v)) none) _ _ _
  refine wpAny_bind (wpAny_standAt (raise_made (I.ok.hd hc) (wpAny_bind (wpAny_mono mk (fun u s1 hu => wpAny_bind (wpAny_standAt (wpAny_pure ?_))) fun _ _ x => x))))
  obtain ⟨a', oe, vs, sI, H', cls, d, rfl, J, k, hne, ha', hz, hd, h1, na, os, ag, r, q⟩ := hu
  obtain ⟨r1, r2⟩ := r (model X.prog X.w) s1.heap (J.kIn.keeps k)
  exact ⟨a', oe, vs, cls, rfl, ha', hz.1, hd, h1, r1, r2, tk _ _ (XE.new (W := WE G X S0 E) J k hne ha' hz hd h1 na os ag q)⟩
end
end DL

namespace DL
open PySem PySem.Spec PyProof.Rows L2

/-! ### try .. except .. as .., the error kept by another name -/
/-- what is wished of an error in the body: it is of the class; the suite runs, then it is known -/
def wKeep (K : PySem.W.Frag) (c : Value) (i : Nat) (ts : Addr → TS) (D : Ends) : WX := fun cls d σ H =>
  PySem.W.exmOne K cls c = some true ∧ ∀ (a : Addr) (oe : Obj) (u : HO) (vs : Array Value), H a = none → oe.cls = cls → oe.dict = d → oe.data = .fields vs →
    ts a { nx := fun σ' H' => H' a = none ∧ D.nx (σ'.set i none) (upd H' a (.frz oe u)), rt := fun _ _ => False } (σ.set i (some (.ref a))) H
theorem inv_freeze0 {X : Cx} {pins : List (Addr × Obj)} {σ : L2.St} {H : Hp} {s : Shared} {f : Addr} {o : Obj} (I : Inv X pins σ H s) (hf : s.heap.get? f = some o) (hn : H f = none) (h0 : X.s_0.heap.get? f = none) (h1 : f ≠ X.env.locals) (h2 : ∀ x c, X.env.cells.lookup x = some c → c ≠ f) (h3 : ∀ p ∈ X.pn ++ pins, p.1 ≠ f) :
    Inv X pins σ (upd H f (.frz o (.ext fun h => h.get? f = some o))) s := by
  have k : ∀ b u, H b = some u → upd H f (.frz o (.ext fun h => h.get? f = some o)) b = some u := upd_grow hn
  refine ⟨I.ok, I.os, I.bare, ⟨I.base.keep, I.base.slot, fun b ob e n hx => ?_, I.base.there, fun b xs e => k _ _ (I.base.tups b xs e), fun b u xs e => k _ _ (I.base.frzs b u xs e), fun b ps e => ?_⟩, I.loc, I.cell, ?_, fun x c e => ?_, fun p hp => ?_, fun b u e => ?_, I.len⟩
  · rw [upd_ne (fun z => by rw [z, h0] at e; cases e)]
    exact I.base.free b ob e n hx
  · obtain ⟨m, q⟩ := I.base.tbls b ps e
    exact ⟨m, k _ _ q⟩
  · rw [upd_ne (Ne.symm h1)]; exact I.free
  · rw [upd_ne (h2 x c e)]; exact I.freeC x c e
  · obtain ⟨a1, a2, a3⟩ := I.pin p hp
    exact ⟨a1, by rw [upd_ne (h3 p hp)]; exact a2, a3⟩
  · by_cases hb : b = f
    · subst hb
      rw [upd_same] at e
      cases e
      exact ⟨hf, hf, ⟨o, hf⟩, fun g1 g2 z y => y _ z⟩
    · rw [upd_ne hb] at e
      exact (I.hok b u e).stay (fun _ _ _ q => q) (fun c q => k _ _ q) fun c xs q => k _ _ q
section
variable {X : Cx} {x n : Str} {c : Value} {i : Nat} {body suite : List Stmt} {b₀ : Stmt} {np pos pos' : Pos} {tb : WX → TS} {ts : Addr → TS}
theorem ps_try_keep (hs : X.stack = X.env :: X.outer) (hf : X.env.frame = some X.env.locals) (hex : X.ex = []) (hN : X.N.Nodup) (hi : X.N[i]? = some n) (hln : X.env.kindOf n = some .local) (hc : Names X x c)
    (hb : ∀ (W : WX) (pn : List (Addr × Obj)) (xe : Value → Shared → Prop), Takes (X.tr pn xe) W → PassesOwn (model X.prog X.w) X.A X.env xe → PSs (X.tr pn xe) body (tb W))
    (hsu : ∀ (a : Addr) (oe : Obj) (pn : List (Addr × Obj)), PSs (X.suite a ((a, oe) :: pn)) (b₀ :: suite) (ts a)) :
    PS X (.Try body [.ExceptHandler (some (.Name x np)) (some n) (b₀ :: suite) pos'] [] [] pos) (fun D σ H => tb (wKeep X.K c i ts D) D σ H) := by
  refine ⟨fun pins s σ H D I h => ?_⟩
  have ok := I.ok
  have hfr : X.A.frames = some (X.env :: X.outer) := by rw [ok.frames, hs]
  have hloc : Loc X.env.scope n := .inl hln
  refine wpAny_Try_except ?_
  refine wpAny_mono ((hb (wKeep X.K c i ts D) (X.pn ++ pins) (fun e s₁ => wpAny (model X.prog X.w) X.A (noteFrame e X.env) (fun _ s₂ => wpAny (model X.prog X.w) X.A (setFlight e none) (fun _ s₃ =>
    wpAny (model X.prog X.w) X.A (handleBy e X.env [.ExceptHandler (some (.Name x np)) (some n) (b₀ :: suite) pos']) (SP X pins D) X.xe s₃) X.xe s₂) X.xe s₁) (fun u s' xx => ?_) PassesOwn.looking).run [] s σ H D (I.toTry _) h) (fun f s1 hsp => ?_) (fun e s1 he => he)
  · obtain ⟨a, B, sI, pins', σ', H', cls, d, rfl, J', nb, up, sky, na, os, ag, hb1, hyes⟩ := xx
    have J : Inv X pins σ' H' sI := J'.ofTry ok
    have sky' : Sky B (X.env :: X.outer) a (Zc cls d) X.env.locals s'.heap := by rw [← hs]; exact sky
    show wpAny (model X.prog X.w) X.A (noteFrame (.ref a) X.env) _ _ _
    refine Sky.land Zc.steady hfr hf sky' fun h3 fl3 up3 => ?_
    have J3 : Inv X pins σ' H' { s' with heap := h3 } := J.landed nb fl3.1 (up.trans up3) os ag
    obtain ⟨oe3, vs3, he3, hz3, hd3⟩ := fl3.there
    have hBa : B.get? a = none := fl3.2.1
    have notFr : ∀ {h : Heap} {o : Obj} {vs : Array Value}, h.FunFrames B (X.env :: X.outer) → h.get? a = some o → o.data = .fields vs → a ∉ frs (X.env :: X.outer) := fun {h o vs} ff e dd hm => by
      obtain ⟨_, o', e', hnf⟩ := ff.mem hm
      rw [e] at e'; cases e'
      exact hnf _ dd
    have nfr := notFr fl3.2.2.1 he3 hd3
    have nL : a ≠ X.env.locals := fun z => nfr (List.mem_filterMap.mpr ⟨X.env, List.mem_cons_self, by rw [hf, z]⟩)
    have nF : a ∉ X.fs := fun hm => by
      obtain ⟨e, he, q⟩ := List.mem_filterMap.mp hm
      exact nfr (List.mem_filterMap.mpr ⟨e, List.mem_cons_of_mem _ he, q⟩)
    have notI : sI.heap.get? a = none := by
      cases q : sI.heap.get? a with
      | none => rfl
      | some o =>
        have z := nb a o q (by rw [hs]; exact nfr)
        rw [hBa] at z; cases z
    have S3 := J3.suite he3 hd3 na nL nF
    refine wpAny_handleBy_cons (codeAny_handlers_test ?_) (by intro q; cases q)
    have LT : PySem.W.Looks (model X.prog X.w) h3 (typeOf (.ref a)) cls := fun A Q E s k q => wpAny_typeOf_ref (k _ _ he3) (by rw [hz3.1]; exact q)
    have LM := PySem.W.exm_one (M := model X.prog X.w) (J3.kIn) LT hb1
    have test : ∀ {Q : Value → Shared → Prop} {E : Value → Shared → Prop}, Q c { s' with heap := h3 } → wpAny (model X.prog X.w) (X.A.mark (some (.ref a))) (eval (.Name x np) X.env) Q E { s' with heap := h3 } := fun {Q E} q => by
      obtain ⟨hg, hdbg, hm | ⟨hm, hv, hnn⟩⟩ := hc
      · exact ld_glob (X := X.suite a ((a, oe3) :: (X.pn ++ pins))) S3 hg hm q hdbg
      · exact ld_blt (X := X.suite a ((a, oe3) :: (X.pn ++ pins))) S3 hg hm hv q hnn hdbg
    refine test (LM.here ?_)
    refine codeAny_handlers_suite_as ?_
    refine HandSPX.lands_againZ fl3 fun h4 fl4 up4 => ?_
    have J4 : Inv X pins σ' H' { s' with heap := h4 } := J.landed nb fl4.1 ((up.trans up3).trans up4) os ag
    obtain ⟨oe4, vs4, he4, hz4, hd4⟩ := fl4.there
    have S4 := J4.suite he4 hd4 na nL nF
    refine store_ok (X := X.suite a ((a, oe4) :: (X.pn ++ pins))) (v := .ref a) S4 hN hi hloc rfl (fun s5 S5 => ?_) (.inr hln)
    refine wpAny_mono ((hsu a oe4 (X.pn ++ pins)).run [] s5 _ H' _ S5 (hyes a oe4 (.ext fun h => h.get? a = some oe4) _ na hz4.1 hz4.2 hd4)) (fun f s6 hsp => ?_) (fun _ _ z => False.elim z)
    cases f with
    | next =>
      obtain ⟨σ6, H6, S6, n6, q6⟩ := hsp
      have U6 : Inv X ((a, oe4) :: pins) σ6 H6 s6 := ⟨ok, S6.os, S6.bare, S6.base, S6.loc, S6.cell, S6.free, S6.freeC, fun p hp => S6.pin p (by
        have hp' : p ∈ X.pn ∨ p = (a, oe4) ∨ p ∈ pins := by simpa using hp
        show p ∈ ((a, oe4) :: (X.pn ++ pins)) ++ []
        rcases hp' with z | z | z
        · simp [z]
        · simp [z]
        · simp [z]), S6.hok, S6.len⟩
      refine gone_ok U6 hN hi hln fun s7 J7 => ?_
      obtain ⟨g7, _⟩ := J7.pin (a, oe4) (by simp)
      have J7' : Inv X pins (σ6.set i none) H6 s7 := J7.pins_of fun p hp => J7.pin p (List.mem_append_right _ (List.mem_cons_of_mem _ hp))
      have J8 := inv_freeze0 J7' g7 n6 (by
          cases q : X.s_0.heap.get? a with
          | none => rfl
          | some o =>
            obtain ⟨o', z⟩ := J.base.there a o q (by rw [hex]; simp)
            rw [notI] at z; cases z) nL (fun y c' e z => by
          obtain ⟨v, o, e1, e2⟩ := J7'.cell y c' e
          rw [z, g7] at e1
          cases e1
          rw [hd4] at e2; cases e2) (fun p hp z => by
          obtain ⟨e1, _⟩ := J.pin p hp
          rw [z, notI] at e1; cases e1)
      exact ⟨_, _, J8, q6⟩
    | brk => exact (hsp.choose_spec.choose_spec.2).elim
    | cont => exact (hsp.choose_spec.choose_spec.2).elim
    | ret u => exact (hsp.choose_spec.choose_spec.choose_spec.2.2).elim
  · cases f with
    | next =>
      obtain ⟨σ', H', J', q⟩ := hsp
      exact wpAny_execs_nil ⟨σ', H', J'.ofTry ok, q⟩
    | brk =>
      obtain ⟨σ', H', J', q⟩ := hsp
      exact ⟨σ', H', J'.ofTry ok, q⟩
    | cont =>
      obtain ⟨σ', H', J', q⟩ := hsp
      exact ⟨σ', H', J'.ofTry ok, q⟩
    | ret u =>
      obtain ⟨v, σ', H', J', r, q⟩ := hsp
      exact ⟨v, σ', H', J'.ofTry ok, r, q⟩
end
section
variable {G : GS} {X : Cx} {S0 : DS} {σ : L2.St} {H H' : Hp} {ρ : Rho} {S S' : DS} {s : Shared} {pins : List (Addr × Obj)}
theorem Rep.unset {x : Str} {i : Nat} (R : Rep G X S0 σ H ρ S) (hi : X.N[i]? = some x) (hc : capN G x = false) : Rep G X S0 (σ.set i none) H (ρ.set i none) S := by
  refine ⟨by rw [List.length_set, List.length_set]; exact R.len, fun j dj e => ?_, R.mem, fun f j sn e => ?_, R.tab, R.st⟩
  · by_cases hij : i = j
    · subst hij
      by_cases hl : i < ρ.length
      · rw [List.getElem?_set_self hl] at e; cases e
      · rw [List.getElem?_eq_none (by rw [List.length_set]; omega)] at e; cases e
    · rw [List.getElem?_set_ne hij] at e
      obtain ⟨w, e1, e2⟩ := R.env j dj e
      exact ⟨w, by rw [List.getElem?_set_ne hij]; exact e1, e2⟩
  · obtain ⟨ld, q, cs, pm, ctv, c', u, h1, h2, h3, h4, h5⟩ := R.lam f j sn e
    refine ⟨ld, q, cs, pm, ctv, c', u, h1, h2, h3, h4, fun k y ey => ?_⟩
    obtain ⟨cc, dd, e1, e2, e3⟩ := h5 k y ey
    refine ⟨cc, dd, e1, e2, ?_⟩
    rcases e3 with ⟨i', v', a1, a2, a3, a4, a5⟩ | z
    · refine .inl ⟨i', v', a1, a2, a3, ?_, a5⟩
      have ne : i ≠ i' := fun z => by
        subst z
        rw [hi] at a3; cases a3
        have : capN G x = true := List.any_eq_true.mpr ⟨ld, List.mem_of_getElem? h1, List.contains_iff_mem.mpr (List.mem_of_getElem? ey)⟩
        rw [this] at hc; cases hc
      rw [List.getElem?_set_ne ne]; exact a4
    · exact .inr z
theorem Rep.setVar0 {x : Str} {i : Nat} {d : D} {v : V} (R : Rep G X S0 σ H ρ S) (hN : X.N.Nodup) (hi : X.N[i]? = some x) (hc : capN G x = false) (hd : Dat X.K G H d v) : Rep G X S0 (σ.set i (some v)) H (ρ.set i (some d)) S := by
  have z := (R.setVar (c := false) hN hi hc.symm hd).1
  exact z
theorem Rep.toTr {pn : List (Addr × Obj)} {xe : Value → Shared → Prop} (R : Rep G X S0 σ H ρ S) : Rep G (X.tr pn xe) S0 σ H ρ S := ⟨R.len, R.env, R.mem, R.lam, R.tab, R.st⟩
theorem Rep.ofTr {pn : List (Addr × Obj)} {xe : Value → Shared → Prop} (R : Rep G (X.tr pn xe) S0 σ H ρ S) : Rep G X S0 σ H ρ S := ⟨R.len, R.env, R.mem, R.lam, R.tab, R.st⟩
variable {LC : Nat → Option (Nat × FC)} {k ic ig ie ik : Nat} {yc yg ye yk x : Str} {tv : DT} {p1 p2 p3 p4 p5 p6 p7 p8 p9 p10 : Pos} {sub : Str → Bool} {CS : Addr}
theorem ds_heard (hs : X.stack = X.env :: X.outer) (hf : X.env.frame = some X.env.locals) (hex : X.ex = []) (hN : X.N.Nodup) (hL : ∀ j n C, LC j = some (n, C) → LamRun G X.prog X.w X.K X.mg X.base k j n C) (hr : RoomD k X.A)
    (ck : X.N[ik]? = some yk) (vk : Vis X.env.scope yk) (dk1 : (yk == ("__debug__" : Str)) = false) (dk2 : (yk == ("__classdict__" : Str)) = false)
    (cg : X.N[ig]? = some yg) (lg : X.env.kindOf yg = some .local) (ng : capN G yg = false)
    (ce : X.N[ie]? = some ye) (le : X.env.kindOf ye = some .local) (ne : capN G ye = false) (de1 : (ye == ("__debug__" : Str)) = false) (de2 : (ye == ("__classdict__" : Str)) = false)
    (cc : X.N[ic]? = some yc) (lc : X.env.kindOf yc = some .local) (nc : capN G yc = false)
    (nie : ie ≠ ic) (hx : Names X x (.ref CS)) (hsub : ∀ n, sub n = true → PySem.W.exmOne X.K (.ref (G.cl n)) (.ref CS) = some true) :
    DSt G X S0 (.Try [.Assign [.Name yg p1] (.Call (.Name yk p2) [] [] p3) p4] [.ExceptHandler (some (.Name x p5)) (some ye) [.Assign [.Name yc p6] (.Name ye p7) p8] p9] [] [] p10)
      (fun D ρ S => bindO (getV ρ ik) fun d => ∃ f, d = .ref f ∧ bindO (S.lam f) fun q => ∃ n C, LC q.1 = some (n, C) ∧ C q.2 S (fun d S' => D.nx (ρ.set ig (some d)) S') (fun n d S' => sub n = true ∧ D.nx ((ρ.set ic (some (.exc n d))).set ie none) (S'.back S))) := by
  refine ⟨fun pins s σ H ρ S D I R h => ?_⟩
  obtain ⟨d, hd, f, rfl, h⟩ := bindO_some h
  obtain ⟨⟨j, sn⟩, e1, n, C, e2, h⟩ := bindO_some h
  have vg : X.env.scope.names.lookup yg = some .local := lg
  have vc : X.env.scope.names.lookup yc = some .local := lc
  have ve : X.env.scope.names.lookup ye = some .local := le
  have body : ∀ (W : WX) (pn : List (Addr × Obj)) (xe : Value → Shared → Prop), Takes (X.tr pn xe) W → PassesOwn (model X.prog X.w) X.A X.env xe → PSs (X.tr pn xe) [.Assign [.Name yg p1] (.Call (.Name yk p2) [] [] p3) p4]
      (fun De σ H => ∃ (ρ : Rho) (S : DS) (Q : QE) (Eh : EX), Rep G X S0 σ H ρ S ∧ getV ρ ik = some (.ref f) ∧ S.lam f = some (j, sn) ∧ C sn S Q Eh ∧ (∀ H' d S' v, Rep G X S0 σ H' ρ S' → Step H S H' S' → Dat X.K G H' d v → Q d S' → De.nx (σ.set ig (some v)) H') ∧ (∀ cls dd H', EXK X.K G H S Eh cls dd H' → W cls dd σ H')) := by
    intro W pn xe tk pw
    refine pss_one ⟨fun pins s σ H De I h => ?_⟩
    obtain ⟨ρ, S, Q, Eh, R, g1, g2, g3, g4, g5⟩ := h
    have I' : Inv (X.tr pn xe) pins σ H s := I
    refine wpAny_Assign_stores ?_ rfl rfl
    have gv : ρ[ik]? = some (some (.ref f)) := by
      unfold getV at g1
      split at g1
      · rename_i q; cases g1; exact q
      · cases g1
    obtain ⟨v, e3, e4⟩ := R.env ik _ gv
    cases (show v = .ref f from e4)
    refine wpAny_Call_Name_kw (thn ((L2.pe_var (X := X.tr pn xe) (pos := p2) (i := ik) ck vk dk1 dk2).run pins s σ H (fun v H1 => v = .ref f ∧ H1 = H) I ⟨.ref f, e3, rfl, rfl⟩) fun u s1 ⟨v, H1, I1, r1, q1⟩ => ?_)
    obtain ⟨ev, eH⟩ := q1
    subst ev
    subst eH
    obtain rfl : u = Value.ref f := r1
    have R1 : Rep G (X.tr pn xe) S0 σ H1 ρ S := R.toTr
    refine PySem.W.callWith_F0 (fnAt_lam I1 ((R1.lam f j sn g2).now I1)) ?_
    refine wpAny_call (codeAny_mono ((hL j n C e2).run X.A X.stack s1 H1 f sn [] [] [] S Q Eh hr I1.env0 (LamAt.now (X := X.tr pn xe) I1 (R1.lam f j sn g2)) .nil rfl (Rep.repF (X := X.tr pn xe) I1 R1) g3) fun r s' hq => ?_)
    cases r with
    | error e => exact tk _ _ (XE.of_call I1 g5 hq)
    | ok fl =>
      cases fl with
      | ret u =>
        obtain ⟨v, H2, d, S2, I2, r2, h2, R2, t2, q2⟩ := after_call I1 R1 hq
        show wpAny (model X.prog X.w) X.A (assign (.Name yg p1) X.env u) _ _ _
        refine wpAny_assign_Name (store_ok (X := X.tr pn xe) I2 hN cg (.inl vg) r2 (fun s3 I3 => ⟨_, H2, I3, g4 H2 d S2 v R2.ofTr t2 h2 q2⟩) (.inr vg))
      | next => exact False.elim hq
      | brk => exact False.elim hq
      | cont => exact False.elim hq
  have suite : ∀ (a : Addr) (oe : Obj) (pn : List (Addr × Obj)), PSs (X.suite a ((a, oe) :: pn)) [.Assign [.Name yc p6] (.Name ye p7) p8] (fun De σ H => ∃ v, σ[ie]? = some (some v) ∧ De.nx (σ.set ic (some v)) H) := by
    intro a oe pn
    exact pss_one (ps_asg (X := X.suite a ((a, oe) :: pn)) (pe_var ce (.inl ve) de1 de2) (pg_name hN cc (.inl vc) (.inr vc)))
  have tr := ps_try_keep (X := X) (i := ie) (b₀ := .Assign [.Name yc p6] (.Name ye p7) p8) (suite := []) (np := p5) (pos := p10) (pos' := p9) hs hf hex hN ce le hx (fun W pn xe tk pw => body W pn xe tk pw) (fun a oe pn => suite a oe pn)
  refine thn (tr.run pins s σ H { nx := fun σ' H' => ∃ ρ' S', Rep G X S0 σ' H' ρ' S' ∧ Step H S H' S' ∧ D.nx ρ' S', rt := fun _ _ => False } I ?_) fun f s1 hsp => ?_
  · refine ⟨ρ, S, _, _, R, hd, e1, h, fun H' d S' v R' t' hd' q' => ?_, fun cls dd H' hx' => ?_⟩
    · exact ⟨_, S', R'.setVar0 hN cg ng hd', t', q'⟩
    · obtain ⟨n, a', w, d, S', rfl, rfl, hxd, hdw, hm, ht, st, hsn, hq⟩ := hx'
      refine ⟨hsub n hsn, fun a oe u vs na oc od odat => ?_⟩
      have hgrow : ∀ b o, H' b = some o → upd H' a (.frz oe u) b = some o := upd_grow na
      obtain ⟨R', t'⟩ := R.behind hm ht st
      obtain ⟨R2, t2⟩ := R'.grow hgrow
      have hex : Dat X.K G (upd H' a (.frz oe u)) (.exc n d) (.ref a) := by
        unfold Dat
        exact ⟨a, oe, u, vs, a', w, rfl, upd_same, oc, od, odat, hgrow _ _ hxd, Dat.mono (fun b o _ e => hgrow b o e) _ _ hdw⟩
      have lt : ie < σ.length := by rw [I.len]; exact (List.getElem?_eq_some_iff.mp ce).1
      refine ⟨.ref a, by rw [List.getElem?_set_self lt], na, ?_⟩
      have R3 := ((R2.setVar0 hN ce ne hex).setVar0 hN cc nc hex).unset (i := ie) ce ne
      have eρ : (((ρ.set ie (some (.exc n d))).set ic (some (.exc n d))).set ie none) = ((ρ.set ic (some (.exc n d))).set ie none) := by
        rw [List.set_comm _ _ nie, List.set_set]
      rw [eρ] at R3
      exact ⟨_, _, R3, t'.trans t2, hq⟩
  · cases f with
    | next => obtain ⟨σ', H', I', ρ', S', R', t', q'⟩ := hsp; exact ⟨σ', H', ρ', S', I', R', t', q'⟩
    | brk => exact (hsp.choose_spec.choose_spec.2).elim
    | cont => exact (hsp.choose_spec.choose_spec.2).elim
    | ret u => exact (hsp.choose_spec.choose_spec.choose_spec.2.2).elim
end
end DL

/-! repr over plain data, ints up to the digits limit -/
namespace DR
open PySem PyProof.Rows
open PySem.Builtin PySem.Builtin.Str PySem.Builtin.Int
section
variable {prog : Program} {w : World} {A : Around} {E : Value → Shared → Prop} {s : Shared} {h₀ : Heap}
theorem call_int_reprW {a : Int} {t : Tok} {Q : Value → Shared → Prop} (hn : s.heap.NoDigits) (hlt : a.natAbs < 10 ^ 4300) (h1 : Q (.str (toString a) s.toks) { s with toks := s.toks + 1 }) :
    wpAny (model prog w) A (call (.builtin "int.__repr__") [.int a t]) Q E s := by
  refine wpAny_call_entry PySem.F.slot_int_repr (typeIs_int s a t) PySem.F.entry_int_repr ?_ (PySem.F.args_int_repr_1 _)
  unfold Builtin.«int.__repr__»
  show wpAny _ _ (do let r ← Builtin.overDigitLimit? a; _) _ _ s
  refine wpAny_bind (overDigitLimit_any hn (fun _ => ?_) (fun hge => absurd hlt (Nat.not_lt.mpr hge)))
  exact wpAny_bind (wpAny_mkStr (wpAny_pure ⟨_, rfl, h1⟩) (int_text_fits10 hlt))
theorem pyReprObj_intW {a : Int} {t : Tok} {Q : Value → Shared → Prop} (hn : s.heap.NoDigits) (hlt : a.natAbs < 10 ^ 4300) (h1 : Q (.str (toString a) s.toks) { s with toks := s.toks + 1 }) :
    wpAny (model prog w) A (pyReprObj (.int a t)) Q E s := by
  unfold pyReprObj
  have hv : [Value.int a t].any Value.onHeap = false := rfl
  simp only [cRoomFor, hv, Bool.false_eq_true, if_false, pure_bind]
  refine wpAny_bind (wpAny_specialOf (name := Str.ofString "__repr__") (typeIs_int s a t) PySem.F.slot_int_repr.lookup ?_)
  refine wpAny_bind (m := callSpecialIfBound? (.int a t) (Str.ofString "__repr__")) (wpAny_callSpecialIfBound?_slot (name := Str.ofString "__repr__") (typeIs_int s a t) PySem.F.slot_int_repr (call_int_reprW hn hlt ?_))
  exact wpAny_bind (wpAny_isInstance (T := "str") (b := true) rfl isSubtype_str_str (wpAny_pure h1))
theorem reprK_int {a : Int} {t : Tok} {as : List Addr} {d : Nat} (hn : h₀.NoDigits) (hlt : a.natAbs < 10 ^ 4300) : ReprK prog w as h₀ d (.int a t) (toString a) := by
  intro base hb A g E s Q hg hcl hu hk0 hQ
  rw [pyReprUnder_leaf (v := .int a t) (by omega) (fun _ e => nomatch e)]
  unfold pyRepr
  exact wpAny_bind (pyReprObj_intW (hn.keeps hk0) hlt (wpAny_pure (hQ s.heap _ fun _ _ e => e)))
end
theorem lt_big {n : Nat} (h : n.log2 < 12900) : n < 10 ^ 4300 := Nat.lt_of_lt_of_le (lt_of_log2 h) pow_lo
mutual
def intsOk : PyData → Prop
  | .int i => i.natAbs.log2 < 12900
  | .list xs => intsOkAll xs
  | .tuple xs => intsOkAll xs
  | .dict _ => False
  | _ => True
def intsOkAll : List PyData → Prop
  | [] => True
  | x :: xs => intsOk x ∧ intsOkAll xs
end
section
variable {prog : Program} {w : World} {h₀ : Heap}
mutual
theorem reprK_reads (hn : h₀.NoDigits) : ∀ {v : Value} {d : PyData} {as : List Addr}, Reads h₀ v d as → intsOk d → d.shown.length ≤ sizeLine → ∃ bs, ReadAtMost h₀ d.depth bs ∧ ReprK prog w bs h₀ d.depth v d.shown
  | _, _, _, .none, _, _ => ⟨[], (fun _ h => nomatch h), by simp only [PyData.shown]; exact .of_is ReprIs.none _ _ _⟩
  | _, _, _, .bool b, _, _ => ⟨[], (fun _ h => nomatch h), by simp only [PyData.shown]; exact .of_is (ReprIs.bool b) _ _ _⟩
  | _, _, _, .int i t, hs, _ => ⟨[], (fun _ h => nomatch h), by simp only [PyData.shown]; exact reprK_int hn (lt_big (by simpa only [intsOk] using hs))⟩
  | _, _, _, .str x t, _, hz => ⟨[], (fun _ h => nomatch h), by simp only [PyData.shown]; exact .of_is (ReprIs.str x t (by simpa only [PyData.shown] using hz)) _ _ _⟩
  | _, _, _, .list (a := a) (vs := vs) (xs := xs) h1 h2 h3 h4, hs, hz => by
    have hz' : (listText (PyData.shownAll xs)).length ≤ sizeLine := by simpa only [PyData.shown] using hz
    obtain ⟨bs, hb, hk⟩ := reprAllK_reads hn h4 (by simpa only [intsOk] using hs) (fun t ht => Nat.le_trans (listText_mem_le ht) hz')
    have r : Reads h₀ (.ref a) (.list xs) _ := .list h1 h2 h3 h4
    have hna : a ∉ bs := not_mem_of_deeper r (by simp only [PyData.depth]; omega) hb
    refine ⟨a :: bs, ReadAtMost.cons r (by simp only [PyData.depth]; omega) hb, ?_⟩
    simp only [PyData.depth, PyData.shown]
    obtain ⟨l⟩ := vs
    cases l with
    | nil =>
      have h4' : ReadsAll h₀ [] xs _ := h4
      cases h4'
      simp only [PyData.shownAll, listText_nil]
      exact ReprK.listEmpty h1 h2 h3
    | cons x l => exact ReprK.list h1 h2 h3 hna (by simpa using hk.length_eq) (fun i y e => hk.item i y (by simpa using e))
  | _, _, _, .tuple (a := a) (xs := xs) h1 h2 h3 h4, hs, hz => by
    have hz' : (tupleText (PyData.shownAll xs)).length ≤ sizeLine := by simpa only [PyData.shown] using hz
    obtain ⟨bs, hb, hk⟩ := reprAllK_reads hn h4 (by simpa only [intsOk] using hs) (fun t ht => Nat.le_trans (tupleText_mem_le ht) hz')
    have r : Reads h₀ (.ref a) (.tuple xs) _ := .tuple h1 h2 h3 h4
    have hna : a ∉ bs := not_mem_of_deeper r (by simp only [PyData.depth]; omega) hb
    refine ⟨a :: bs, ReadAtMost.cons r (by simp only [PyData.depth]; omega) hb, ?_⟩
    simp only [PyData.depth, PyData.shown]
    exact ReprK.tuple h1 h2 h3 hna hk
  | _, _, _, .dict _ _ _ _ _, hs, _ => by
    exact False.elim (by simpa only [intsOk] using hs)
theorem reprAllK_reads (hn : h₀.NoDigits) : ∀ {vs : List Value} {ds : List PyData} {as : List Addr}, ReadsAll h₀ vs ds as → intsOkAll ds → (∀ t ∈ PyData.shownAll ds, t.length ≤ sizeLine) →
    ∃ bs, ReadAtMost h₀ (PyData.depthAll ds) bs ∧ ReprAllK prog w bs h₀ (PyData.depthAll ds) vs (PyData.shownAll ds)
  | _, _, _, .nil, _, _ => ⟨[], (fun _ h => nomatch h), by simp only [PyData.shownAll]; exact .nil⟩
  | _, _, _, .cons (d := d) (ds := ds) r rs, hs, hz => by
    have hs' : intsOk d ∧ intsOkAll ds := by simpa only [intsOkAll] using hs
    obtain ⟨b1, hb1, k1⟩ := reprK_reads hn r hs'.1 (hz _ (by simp only [PyData.shownAll]; exact List.mem_cons_self ..))
    obtain ⟨b2, hb2, k2⟩ := reprAllK_reads hn rs hs'.2 (fun t ht => hz t (by simp only [PyData.shownAll]; exact List.mem_cons_of_mem _ ht))
    refine ⟨b1 ++ b2, ?_, ?_⟩
    · intro b hm
      simp only [PyData.depthAll]
      rcases List.mem_append.mp hm with hm | hm
      · obtain ⟨d', as', r', hd'⟩ := hb1 b hm
        exact ⟨d', as', r', Nat.le_trans hd' (Nat.le_max_left _ _)⟩
      · obtain ⟨d', as', r', hd'⟩ := hb2 b hm
        exact ⟨d', as', r', Nat.le_trans hd' (Nat.le_max_right _ _)⟩
    · simp only [PyData.depthAll, PyData.shownAll]
      exact .cons ((k1.more fun b hb => List.mem_append_left _ hb).level_le (Nat.le_max_left _ _)) (k2.more_le (fun b hb => List.mem_append_right _ hb) (Nat.le_max_right _ _))
end
/-- repr(v) -/
theorem call_repr_reads {v : Value} {d : PyData} {as : List Addr} (hn : h₀.NoDigits) (r : Reads h₀ v d as) (hs : intsOk d) (hz : d.shown.length ≤ sizeLine) {A : Around} {E : Value → Shared → Prop} {s : Shared} {Q : Value → Shared → Prop} (hg : A.guards = some []) (hu : A.units + d.depth + 2 < cLine)
    (hk0 : ∀ b o, h₀.get? b = some o → s.heap.get? b = some o) (hQ : ∀ h' u tk, (∀ b o, s.heap.get? b = some o → h'.get? b = some o) → Q (.str d.shown u) { s with heap := h', toks := tk }) : wpAny (model prog w) A (call (.builtin "repr") [v]) Q E s := by
  have hg1 : A.in1.guards = some [] := hg
  cases r with
  | none =>
    simp only [PyData.shown] at hQ
    exact call_repr_gives (typeIs_none s) PySem.F.slot_NoneType_repr PySem.F.entry_NoneType_repr (PySem.F.args_NoneType_repr_1 _) gives_none_repr (hQ s.heap _ _ fun _ _ e => e) (hx := by decide)
  | bool b =>
    simp only [PyData.shown] at hQ
    exact call_repr_gives (_root_.PySem.typeIs_bool s b) PySem.F.slot_bool_repr PySem.F.entry_bool_repr (PySem.F.args_bool_repr_1 _) (gives_bool_repr b) (hQ s.heap _ _ fun _ _ e => e) (hx := by cases b <;> decide)
  | int i t =>
    refine call_repr_slot (by omega) (typeIs_int s i t) PySem.F.slot_int_repr.toG (call_int_reprW (hn.keeps hk0) (lt_big (by simpa only [intsOk] using hs)) ⟨_, _, rfl, ?_⟩)
    simp only [PyData.shown] at hQ
    exact hQ s.heap _ _ fun _ _ e => e
  | str x t =>
    simp only [PyData.shown] at hQ hz
    exact call_repr_gives (typeIs_str s x t) PySem.F.slot_str_repr PySem.F.entry_str_repr (PySem.F.args_str_repr_1 _) (gives_str_repr x t) (hQ s.heap _ _ fun _ _ e => e) (hx := hz)
  | @list a o vs n xs as h1 h2 h3 h4 =>
    have hz' : (listText (PyData.shownAll xs)).length ≤ sizeLine := by simpa only [PyData.shown] using hz
    obtain ⟨bs, hb, hk⟩ := reprAllK_reads (prog := prog) (w := w) hn h4 (by simpa only [intsOk] using hs) (fun t ht => Nat.le_trans (listText_mem_le ht) hz')
    have r : Reads h₀ (.ref a) (.list xs) _ := .list h1 h2 h3 h4
    have hna : a ∉ bs := not_mem_of_deeper r (by simp only [PyData.depth]; omega) hb
    simp only [PyData.depth] at hu
    simp only [PyData.shown] at hQ
    refine call_repr_slot (by omega) ⟨o, hk0 _ _ h1, h2⟩ PySem.F.slot_list_repr.toG ?_
    obtain ⟨l⟩ := vs
    cases l with
    | nil =>
      have h4' : ReadsAll h₀ [] xs _ := h4
      cases h4'
      simp only [PyData.shownAll, listText_nil] at hQ
      exact call_list_repr_empty ⟨o, hk0 _ _ h1, h2⟩ (hk0 _ _ h1) h3 ⟨_, _, rfl, hQ s.heap _ _ fun _ _ e => e⟩
    | cons x l =>
      exact call_list_reprK h1 h2 h3 hna (by simpa using hk.length_eq) (fun i y e => hk.item i y (by simpa using e)) hg1 (fun b _ => Clear.nil b) (by show A.units + 1 + _ < _; omega) hk0 (fun h' u tk hk' => ⟨_, _, rfl, hQ h' u tk hk'⟩) hz'
  | @tuple a o vs n xs as h1 h2 h3 h4 =>
    have hz' : (tupleText (PyData.shownAll xs)).length ≤ sizeLine := by simpa only [PyData.shown] using hz
    obtain ⟨bs, hb, hk⟩ := reprAllK_reads (prog := prog) (w := w) hn h4 (by simpa only [intsOk] using hs) (fun t ht => Nat.le_trans (tupleText_mem_le ht) hz')
    have r : Reads h₀ (.ref a) (.tuple xs) _ := .tuple h1 h2 h3 h4
    have hna : a ∉ bs := not_mem_of_deeper r (by simp only [PyData.depth]; omega) hb
    simp only [PyData.depth] at hu
    simp only [PyData.shown] at hQ
    exact call_repr_slot (by omega) ⟨o, hk0 _ _ h1, h2⟩ PySem.F.slot_tuple_repr (call_tuple_reprK h1 h2 h3 hna hk hg1 (fun b _ => Clear.nil b) (by show A.units + 1 + _ < _; omega) hk0 (fun h' u tk hk' => ⟨_, _, rfl, hQ h' u tk hk'⟩) hz')
  | dict _ _ _ _ _ => exact False.elim (by simpa only [intsOk] using hs)
end
end DR
namespace DL
open PySem PySem.Spec PyProof.Rows L2

/-- a text of a plain thing -/
def leafT : D → Option (Str × Int)
  | .non => some ("None", 0)
  | .bl b => some (if b then "True" else "False", 0)
  | .int i => some (toString i, i)
  | .str x => some (reprText x, 0)
  | _ => none
def keyT : Key → Str × Int
  | .inl i => (toString i, i)
  | .inr x => (reprText x, 0)
def dictTs : List (Key × D) → Option (List (Str × Str × Int × Int))
  | [] => some []
  | (k, d) :: r => match leafT d, dictTs r with
    | some (t, i), some ts => some (((keyT k).1, t, (keyT k).2, i) :: ts)
    | _, _ => none
def entT (p : Str × Str × Int × Int) : Str := p.1 ++ ": " ++ p.2.1
def entOk (p : Str × Str × Int × Int) : Prop := p.1.length ≤ sizeLine ∧ p.2.1.length ≤ sizeLine ∧ p.2.2.1.natAbs.log2 < 12900 ∧ p.2.2.2.natAbs.log2 < 12900
def reprS (d : D) (S : DS) (Q : Str → Prop) : Prop := match d with
  | .ref a => (match S.mem a with
    | some (.dk kvs) => ∃ ts, dictTs kvs = some ts ∧ (∀ p ∈ ts, entOk p) ∧ (dictText (ts.map entT)).length ≤ sizeLine ∧ Q (dictText (ts.map entT))
    | _ => ∃ p, pd S d = some p ∧ DR.intsOk p ∧ p.shown.length ≤ sizeLine ∧ p.depth ≤ 40 ∧ Q p.shown)
  | _ => ∃ p, pd S d = some p ∧ DR.intsOk p ∧ p.shown.length ≤ sizeLine ∧ p.depth ≤ 40 ∧ Q p.shown
theorem reprS_cases {d : D} {S : DS} {Q : Str → Prop} (h : reprS d S Q) : (∃ a kvs ts, d = .ref a ∧ S.mem a = some (.dk kvs) ∧ dictTs kvs = some ts ∧ (∀ p ∈ ts, entOk p) ∧ (dictText (ts.map entT)).length ≤ sizeLine ∧ Q (dictText (ts.map entT))) ∨
    ∃ p, pd S d = some p ∧ DR.intsOk p ∧ p.shown.length ≤ sizeLine ∧ p.depth ≤ 40 ∧ Q p.shown := by
  unfold reprS at h
  split at h
  · split at h
    · rename_i kvs e
      obtain ⟨ts, h⟩ := h
      exact .inl ⟨_, kvs, ts, rfl, e, h⟩
    · exact .inr h
  · exact .inr h
section
variable {prog : Program} {w : World} {h₀ : Heap}
theorem leaf_k (hn : h₀.NoDigits) {K : PySem.W.Frag} {G : GS} {H : Hp} {d : D} {v : V} {u : Value} {t : Str} {i : Int} (hd : Dat K G H d v) (r : RelV v u) (e : leafT d = some (t, i)) (h1 : t.length ≤ sizeLine) (h2 : i.natAbs.log2 < 12900) : ReprK prog w [] h₀ 0 u t := by
  cases d with
  | non => cases e; cases (show v = .non from hd); cases (show u = Value.none from r); exact .of_is ReprIs.none _ _ _
  | bl b => cases e; cases (show v = .bl b from hd); cases (show u = Value.bool b from r); exact .of_is (ReprIs.bool b) _ _ _
  | int j =>
    have e : (((toString j : String) : Str), j) = (t, i) := Option.some.inj e
    obtain ⟨rfl, rfl⟩ := Prod.mk.inj e
    cases (show v = .int j from hd)
    obtain ⟨tk, rfl⟩ := (show ∃ t, u = Value.int j t from r)
    exact DR.reprK_int hn (DR.lt_big h2)
  | str x => cases e; cases (show v = .str x from hd); obtain ⟨tk, rfl⟩ := (show ∃ t, u = Value.str x t from r); exact .of_is (ReprIs.str x tk h1) _ _ _
  | _ => cases e
theorem key_k (hn : h₀.NoDigits) {k : Key} {u : Value} (e : keyIs k u = true) (h1 : (keyT k).1.length ≤ sizeLine) (h2 : (keyT k).2.natAbs.log2 < 12900) : ReprK prog w [] h₀ 0 u (keyT k).1 := by
  rcases keyIs_shape e with ⟨i, t, rfl, rfl⟩ | ⟨x, t, rfl, rfl⟩
  · exact DR.reprK_int hn (DR.lt_big h2)
  · exact .of_is (ReprIs.str x t h1) _ _ _
theorem entries_k (hn : h₀.NoDigits) {K : PySem.W.Frag} {G : GS} {H : Hp} {P : Program} {W : World} : ∀ (kvs : List (Key × D)) (es : List DictEntry) (vs : List (Key × Value)) (kws : List (Key × V)) (ts : List (Str × Str × Int × Int)),
    Pairs (mixKind P W) es vs → KV kws vs → kws.map (·.1) = kvs.map (·.1) → Dats K G H (kvs.map (·.2)) (kws.map (·.2)) → dictTs kvs = some ts → (∀ p ∈ ts, entOk p) → ReprEntriesK prog w [] h₀ 0 es (ts.map entT) := by
  intro kvs
  induction kvs with
  | nil =>
    intro es vs kws ts hp hv hk hd he hok
    have : kws = [] := by simpa using hk
    subst this
    cases hv
    cases hp
    cases he
    exact .nil
  | cons q kvs ih =>
    intro es vs kws ts hp hv hk hd he hok
    obtain ⟨k, d⟩ := q
    cases kws with
    | nil => simp at hk
    | cons q0 kws =>
      obtain ⟨k0, v0⟩ := q0
      cases hv with
      | cons q1 q2 =>
        cases hp with
        | cons p1 p2 p3 =>
          simp only [List.map_cons, List.cons.injEq] at hk
          obtain ⟨hk1, hk2⟩ := hk
          obtain ⟨v, r, er, hd1, hd2⟩ := hd.cases1
          simp only [List.map_cons, List.cons.injEq] at er
          obtain ⟨rfl, rfl⟩ := er
          unfold dictTs at he
          split at he
          · rename_i t i ts' e1 e2
            cases he
            have o1 := hok _ (List.mem_cons_self ..)
            refine .cons ?_ ?_ (ih _ _ _ _ p3 q2 hk2 hd2 e2 fun p hp => hok p (List.mem_cons_of_mem _ hp))
            · refine key_k hn ?_ o1.1 o1.2.2.1
              have e0 : k = _ := hk1.symm.trans q1.1
              rw [e0]; exact p1
            · refine leaf_k hn hd1 ?_ e1 o1.2.1 o1.2.2.2
              rw [p2]; exact q1.2
          · cases he
end
section
variable {G : GS} {X : Cx} {S0 : DS} {σ : L2.St} {H : Hp} {ρ : Rho} {S : DS} {s : Shared} {pins : List (Addr × Obj)}
theorem call_repr (hd : X.base.NoDigits) {k : Nat} (hr : RoomD k X.A) : CallD G X S0 (.builtin "repr") (fun ds S Q => ∃ d, ds = [d] ∧ reprS d S fun t => Q (.str t) S) := by
  intro pins s σ H ρ S vs us ds Q I R rv hds h
  obtain ⟨d, rfl, h⟩ := h
  obtain ⟨v, r, rfl, hv, hr'⟩ := hds.cases1
  cases (show r = [] from hr')
  cases rv with
  | cons ru rr =>
    rename_i u _
    cases rr
    have hn : s.heap.NoDigits := hd.keeps I.bk
    have fin : ∀ (t : Str) (tk tk' : Tok) (h' : Heap), Q (.str t) S → (∀ b o, s.heap.get? b = some o → h'.get? b = some o) → DP G X S0 pins σ ρ H S Q (.str t tk) { s with heap := h', toks := tk' } := fun t tk tk' h' q k' =>
      ⟨.str t, H, .str t, S, I.kept k', ⟨tk, rfl⟩, rfl, R, Step.refl _ _, q⟩
    have hu := hr.room.un
    rcases reprS_cases h with ⟨a, kvs, ts, rfl, e1, e2, e3, e4, q⟩ | ⟨p, e1, e2, e3, e4, q⟩
    · cases (show v = .ref a from hv)
      cases (show u = Value.ref a from ru)
      obtain ⟨kws, hk, hkm, hkd⟩ := R.mem a _ e1
      obtain ⟨_, hs, vs, kv, o, es, ep, ho, hx, hdt, _, hp, _⟩ := I.hok a _ hk
      refine call_repr_slot (by omega) ⟨o, ho, hx.1⟩ PySem.F.slot_dict_repr (call_dict_reprK (h₀ := s.heap) (as := []) (d := 0) ho hx.1 hdt hs (by simp) (entries_k hn _ _ _ _ _ hp kv hkm hkd e2 e3) (show X.A.in1.guards = some [] from hr.gd) (fun b _ => Clear.nil b) (by show X.A.units + 1 + _ < _; omega) (fun _ _ e => e) (fun h' u tk hk' => ⟨_, _, rfl, ?_⟩) e4)
      exact fin _ _ _ _ q hk'
    · obtain ⟨as, rd⟩ := Dp.reads I p v u (pd_dp R hv e1) ru
      exact DR.call_repr_reads hn rd e2 e3 hr.gd (by omega) (fun _ _ e => e) fun h' u tk hk' => fin _ _ _ _ q hk'
end
end DL

namespace DL
open PySem PySem.Spec PyProof.Rows L2

/-- what is asked of a class of errors, at C, that is told by isinstance -/
structure ExcOk (K : PySem.W.Frag) (C : Addr) : Prop where
  sa : PySem.W.findIn K (.ref C) "__getattribute__" = some (some (.builtin "BaseException.__getattribute__"))
  gg : PySem.W.findIn K (.ref C) "__getattr__" = some none
  exC : PySem.W.subIn K (.ref C) (.type "BaseException") = some true
  hdC : PySem.W.hasDictIn K C = true
  noN : PySem.W.findIn K (.ref C) "value" = some none
  cls : PySem.W.findIn K (.ref C) "__class__" = some (some (.builtin "object.__class__"))
  get : PySem.W.specialIn K (.builtin "object.__class__") "__get__" = some (some (.builtin "getset_descriptor.__get__"))
  tak : PySem.W.takesIn K (.builtin "object.__class__") = some true
  obj : PySem.W.mroIn K C (.type "object") = some true
/-- one built-in type under another -/
def isTy (a b : String) : Option Bool := match a, b with
  | "NoneType", "bool" => some false | "NoneType", "int" => some false | "NoneType", "str" => some false | "NoneType", "tuple" => some false | "NoneType", "list" => some false | "NoneType", "dict" => some false
  | "bool", "bool" => some true | "bool", "int" => some true | "bool", "str" => some false | "bool", "tuple" => some false | "bool", "list" => some false | "bool", "dict" => some false
  | "int", "bool" => some false | "int", "int" => some true | "int", "str" => some false | "int", "tuple" => some false | "int", "list" => some false | "int", "dict" => some false
  | "str", "bool" => some false | "str", "int" => some false | "str", "str" => some true | "str", "tuple" => some false | "str", "list" => some false | "str", "dict" => some false
  | "tuple", "bool" => some false | "tuple", "int" => some false | "tuple", "str" => some false | "tuple", "tuple" => some true | "tuple", "list" => some false | "tuple", "dict" => some false
  | "list", "bool" => some false | "list", "int" => some false | "list", "str" => some false | "list", "tuple" => some false | "list", "list" => some true | "list", "dict" => some false
  | "dict", "bool" => some false | "dict", "int" => some false | "dict", "str" => some false | "dict", "tuple" => some false | "dict", "list" => some false | "dict", "dict" => some true
  | _, _ => none
def tyName (d : D) (S : DS) : Option String := match d with
  | .non => some "NoneType"
  | .bl _ => some "bool"
  | .int _ => some "int"
  | .str _ => some "str"
  | .tup _ => some "tuple"
  | .ref a => (match S.mem a with
    | some (.lst _) => some "list"
    | some (.ro _) => some "list"
    | some (.dk _) => some "dict"
    | none => none)
  | _ => none
def isiS (G : GS) (d c : D) (S : DS) : Option Bool := match d, c with
  | .exc n _, .cls m => some (G.sub n m)
  | .exc _ _, .ty "ValueError" => some true
  | d, .ty T => (match tyName d S with
    | some t => isTy t T
    | none => none)
  | _, _ => none
theorem isTy_kit {K : PySem.W.Frag} {a b : String} {r : Bool} (h : isTy a b = some r) : PySem.W.kitOne K (.type a) (.type b) = some r := by
  refine kit_ty ?_
  unfold isTy at h
  split at h <;> first | (cases h; decide +kernel) | cases h
/-- the classes of errors, told by names -/
structure ExcsOk (K : PySem.W.Frag) (G : GS) (names : List Str) : Prop where
  ok : ∀ n ∈ names, ExcOk K (G.cl n)
  sub : ∀ n ∈ names, ∀ m b, G.sub n m = b → PySem.W.kitOne K (.ref (G.cl n)) (.ref (G.cl m)) = some b
  ve : ∀ n ∈ names, PySem.W.kitOne K (.ref (G.cl n)) (.type "ValueError") = some true
section
variable {G : GS} {X : Cx} {S0 : DS} {σ : L2.St} {H : Hp} {ρ : Rho} {S : DS} {s : Shared} {pins : List (Addr × Obj)}
theorem tyX_of (R : Rep G X S0 σ H ρ S) {d : D} {v : V} {t : String} (h : Dat X.K G H d v) (e : tyName d S = some t) : TyX X.K H v (.type t) := by
  cases d with
  | non => cases e; cases (show v = .non from h); exact .base .non
  | bl b => cases e; cases (show v = .bl b from h); exact .base (.bl b)
  | int i => cases e; cases (show v = .int i from h); exact .base (.int i)
  | str x => cases e; cases (show v = .str x from h); exact .base (.str x)
  | tup ds =>
    cases e
    unfold Dat at h
    obtain ⟨a, vs, rfl, hs, _⟩ := h
    rcases hs with (q | ⟨o, q⟩) | ⟨o, its, n, q, c, _⟩
    · exact .base (.tup q)
    · exact .fTuple q
    · exact .kTuple q c
  | ref a =>
    cases (show v = .ref a from h)
    simp only [tyName] at e
    cases q : S.mem a with
    | none => rw [q] at e; cases e
    | some m =>
      rw [q] at e
      have z := R.mem a m q
      cases m with
      | lst ds => cases e; obtain ⟨vs, e1, _⟩ := z; exact .base (.lst e1)
      | ro ds => cases e; obtain ⟨vs, ⟨ob, e1⟩, _⟩ := z; exact .base (.frz e1)
      | dk kvs => cases e; obtain ⟨kws, e1, _⟩ := z; exact .base (.dK e1)
  | _ => cases e
/-- the exception's object and its dict, in the heap -/
theorem exc_inst (I : Inv X pins σ H s) {n : Str} {d : D} {v : V} (h : Dat X.K G H (.exc n d) v) : ∃ (a : Addr) (oe : Obj) (od : Obj) (w : V) (u : Value), v = .ref a ∧ PySem.W.InstAt s.heap a oe (G.cl n) (some od) ∧ (∀ name, PySem.W.lookIn name od = some (if name = "value" then some u else none) ∨ name ≠ "value") ∧ PySem.W.lookIn "value" od = some (some u) ∧ RelV w u ∧ Dat X.K G H d w := by
  unfold Dat at h
  obtain ⟨a, oe, u0, fv, dd, w, rfl, h1, h2, h3, h4, h5, h6⟩ := h
  have hx : ObjOk X.prog X.w H s.heap dd (.xd [(("value" : Str), w)]) := I.hok dd _ h5
  obtain ⟨mA, hns, hr⟩ := hx
  obtain ⟨od, ho, hl⟩ := lookIn_ns hns
  have l : List.lookup ("value" : Str) [(("value" : Str), w)] = some w := by simp [List.lookup]
  obtain ⟨u, hu, ru⟩ := RelO.some_of (v := w) (o := mA "value") (by rw [← l]; exact hr "value")
  have J : PySem.W.InstAt s.heap a oe (G.cl n) (some od) := ⟨(I.hok a _ h1).1, h2, by unfold PySem.W.notCls; rw [h4] <;> rfl, by rw [h3]; exact ho⟩
  refine ⟨a, oe, od, w, u, rfl, J, fun name => ?_, by rw [hl, hu], ru, h6⟩
  by_cases q : name = "value"
  · subst q; exact .inl (by rw [hl, hu]; simp)
  · exact .inr q
variable {ns : List Str}
theorem call_isiD (XO : ExcsOk X.K G ns) : CallD G X S0 (.builtin "isinstance") (fun ds S Q => ∃ d c, ds = [d, c] ∧ (∀ n d', d = .exc n d' → n ∈ ns) ∧ bindO (isiS G d c S) fun b => Q (.bl b) S) := by
  intro pins s σ H ρ S vs us ds Q I R rv hds h
  obtain ⟨d, c, rfl, hn, h⟩ := h
  obtain ⟨b, e, q⟩ := bindO_some h
  obtain ⟨v, r, rfl, hv, hr'⟩ := hds.cases1
  obtain ⟨vc, r', rfl, hc, hr''⟩ := hr'.cases1
  cases (show r' = [] from hr'')
  have base : ∀ {T t}, c = .ty T → tyName d S = some t → isTy t T = some b → wpAny (model X.prog X.w) X.A (call (.builtin "isinstance") us) (DP G X S0 pins σ ρ H S Q) X.xe s := by
    intro T t e1 e2 e3
    subst e1
    cases (show vc = .ty T from hc)
    exact thn (call_isi pins s σ H [v, .ty T] us (fun x H' => x = .bl b ∧ H' = H) I rv ⟨v, .ty T, .type t, .type T, b, rfl, .ty T, tyX_of R hv e2, isTy_kit e3, rfl, rfl⟩) fun u s' ⟨x, H', I', r', e4, e5⟩ => by
      subst e4 e5
      exact ⟨.bl b, _, .bl b, S, I', r', rfl, R, Step.refl _ _, q⟩
  have own : ∀ {n d' c'}, d = .exc n d' → vc = c' → (∀ u, RelV c' u → PySem.W.kitOne X.K (.ref (G.cl n)) u = some b) → wpAny (model X.prog X.w) X.A (call (.builtin "isinstance") us) (DP G X S0 pins σ ρ H S Q) X.xe s := by
    intro n d' c' e1 e2 e3
    subst e1 e2
    have O := XO.ok n (hn n d' rfl)
    obtain ⟨u1, u2, rfl, r1, r2⟩ := vals2 rv
    obtain ⟨a, oe, od, w, u, rfl, J, _⟩ := exc_inst I hv
    cases (show u1 = Value.ref a from r1)
    have Z : PySem.W.KitX X.K (.ref a) (.ref (G.cl n)) (fun h => PySem.W.InstAt h a oe (G.cl n) (some od)) := PySem.W.kitx_exc (by
      obtain ⟨cd, hc, _⟩ := PySem.W.any_some O.hdC
      rw [hc]; rfl) O.sa O.gg O.exC O.cls O.get O.tak O.obj
    exact PySem.W.kia_one Z I.kIn J (e3 _ r2) (fun z => nomatch z) fun tk => ⟨.bl b, H, .bl b, S, I.tok tk, rfl, rfl, R, Step.refl _ _, q⟩
  unfold isiS at e
  split at e
  · rename_i n d' m
    cases e
    cases (show vc = .ref (G.cl m) from hc)
    exact own rfl rfl fun u ru => by
      cases (show u = Value.ref (G.cl m) from ru)
      exact XO.sub n (hn n d' rfl) m _ rfl
  · rename_i n d'
    cases e
    cases (show vc = .ty "ValueError" from hc)
    exact own rfl rfl fun u ru => by
      cases (show u = Value.type "ValueError" from ru)
      exact XO.ve n (hn n d' rfl)
  · split at e
    · rename_i t e2
      exact base rfl e2 e
    · cases e
  · cases e
variable {e : Expr} {te : DT} {pos : Pos}
/-- e.value, an error -/
theorem de_value (XO : ExcsOk X.K G ns) (he : DE G X S0 e te) (hb : attributeBase e "value" X.env (eval e X.env) = eval e X.env) : DE G X S0 (.Attribute e "value" pos) (fun ρ S Q => te ρ S fun d S1 => ∃ n d', d = .exc n d' ∧ n ∈ ns ∧ Q d' S1) := by
  refine ⟨fun pins s σ H ρ S Q I R h => ?_⟩
  refine attr_of hb (thn (he.run pins s σ H ρ S _ I R h) fun u s1 ⟨v, H1, d1, S1, I1, r1, h1, R1, t1, q1⟩ => ?_)
  obtain ⟨n, d', rfl, hn, q⟩ := q1
  have O := XO.ok n hn
  obtain ⟨a, oe, od, w, uw, rfl, J, _, hl, rw', hd⟩ := exc_inst I1 h1
  cases (show u = Value.ref a from r1)
  exact HandSPX.exc_get I1.kIn J O.sa O.gg O.exC (PySem.W.findObj_own O.hdC O.noN rfl hl) (handed_of rw') ⟨w, H1, d', S1, I1.tok _, rw', hd, R1, t1, q⟩
end
end DL

namespace DL
open PySem PySem.Spec PyProof.Rows L2
/-! sorted, of pairs of ints -/
def pairD (p : Int × Int) : D := .tup [.int p.1, .int p.2]
/-- a pair, read off the heap -/
def kOf (h : Heap) (u : Value) : Int × Int := match u with
  | .ref t => (match h.get? t with
    | some ⟨_, _, .seq its _, _⟩ => (match its.toList with
      | [.int x _, .int y _] => (x, y)
      | _ => (0, 0))
    | _ => (0, 0))
  | _ => (0, 0)
theorem kOf_pair {h : Heap} {u : Value} {x y : Int} (p : Srt.IsPair h u x y) : kOf h u = (x, y) := by
  obtain ⟨a, o, t, v, n, rfl, ho, hc, hd⟩ := p
  obtain ⟨c, dd, dt, sl⟩ := o
  have hd : dt = .seq #[.int x t, .int y v] n := hd
  subst hd
  simp only [kOf, ho]
/-- the order of pairs -/
def leP (p q : Int × Int) : Prop := SrtO.lexB q p = false
section
variable {G : GS} {X : Cx} {S0 : DS} {σ : L2.St} {H : Hp} {ρ : Rho} {S : DS} {s : Shared} {pins : List (Addr × Obj)}
theorem pairs_are (I : Inv X pins σ H s) : ∀ {ps : List (Int × Int)} {xs : List V} {us : List Value}, Dats X.K G H (ps.map pairD) xs → Vals xs us → us.map (kOf s.heap) = ps ∧ ∀ u ∈ us, Srt.IsPair s.heap u (kOf s.heap u).1 (kOf s.heap u).2 ∧ RelV (backV u) u ∧ Dat X.K G H (pairD (kOf s.heap u)) (backV u)
  | [], xs, us, hd, r => by
    have : xs = [] := hd
    subst this
    cases r
    exact ⟨rfl, fun u hu => by cases hu⟩
  | p :: ps, xs, us, hd, r => by
    obtain ⟨v, r', rfl, h1, h2⟩ := hd
    cases r with
    | cons rv rr =>
      rename_i u us
      obtain ⟨e1, e2⟩ := pairs_are I h2 rr
      have hh : Srt.IsPair s.heap u p.1 p.2 ∧ RelV (backV u) u ∧ Dat X.K G H (pairD p) (backV u) := by
        have h1' := h1
        unfold pairD Dat at h1
        obtain ⟨t, vs, rfl, hs, hd⟩ := h1
        obtain ⟨v1, r1, rfl, a1, a2⟩ := hd
        obtain ⟨v2, r2, rfl, b1, b2⟩ := a2
        have a1 : v1 = .int p.1 := a1
        have b1 : v2 = .int p.2 := b1
        have b2 : r2 = [] := b2
        subst a1 b1 b2
        cases rv
        refine ⟨?_, rfl, h1'⟩
        obtain ⟨its, rvv, ⟨o, ho, hc, n, hdd⟩, _⟩ := I.tuple hs
        obtain ⟨u1, u2, rfl, ri, rj⟩ := vals2 rvv
        obtain ⟨t1, rfl⟩ := ri
        obtain ⟨t2, rfl⟩ := rj
        exact ⟨t, o, t1, t2, n, rfl, ho, hc, hdd⟩
      have ek : kOf s.heap u = p := kOf_pair hh.1
      refine ⟨by rw [List.map_cons, ek, e1], fun w hw => ?_⟩
      rcases List.mem_cons.mp hw with rfl | hw
      · rw [ek]; exact hh
      · exact e2 w hw
theorem dats_back (I : Inv X pins σ H s) : ∀ {us : List Value}, (∀ u ∈ us, RelV (backV u) u ∧ Dat X.K G H (pairD (kOf s.heap u)) (backV u)) → Vals (us.map backV) us ∧ Dats X.K G H ((us.map (kOf s.heap)).map pairD) (us.map backV)
  | [], _ => ⟨.nil, rfl⟩
  | u :: us, h => by
    obtain ⟨h1, h2⟩ := dats_back I (us := us) fun w hw => h w (List.mem_cons_of_mem _ hw)
    obtain ⟨g1, g2⟩ := h u List.mem_cons_self
    exact ⟨.cons g1 h1, Dats.cons g2 h2⟩
theorem sortP_run {a : Addr} {ps : List (Int × Int)} {xs : List V} {Q : QE} (I : Inv X pins σ H s) (R : Rep G X S0 σ H ρ S) (hs : SqL X.K H a xs) (hd : Dats X.K G H (ps.map pairD) xs)
    (h : ∀ qs : List (Int × Int), qs.Perm ps → qs.Pairwise leP → ∀ p, S.mem p = none → Q (.ref p) (S.put p (.lst (qs.map pairD)))) :
    wpAny (model X.prog X.w) X.A (call (.builtin "sorted") [.ref a]) (DP G X S0 pins σ ρ H S Q) X.xe s := by
  obtain ⟨its, rv, hl, hz⟩ := I.list hs
  obtain ⟨e1, e2⟩ := pairs_are I hd rv
  refine SrtO.sorted_pairsO (k := kOf s.heap) hl.isList (by rw [← rv.length]; exact hz) (fun v hv => (e2 v hv).1) fun h' d out h1 h2 kp hdn hn => ?_
  have hm : ∀ u ∈ out, u ∈ its := fun u hu => h2.perm.mem_iff.mp hu
  obtain ⟨v1, v2⟩ := dats_back (G := G) I (us := out) fun u hu => (e2 u (hm u hu)).2
  obtain ⟨n, hn⟩ := hn
  have hf : H d = none := I.hok.fresh hdn
  have I2 : Inv X pins σ (upd H d (.lst (out.map backV))) { s with heap := h' } := I.laid (t' := s.toks) kp hdn ⟨by rw [List.length_map, h2.len, ← rv.length]; exact hz, out, n, v1, hn⟩
  refine of_EP (u := .ref d) ⟨.ref d, _, I2, rfl, HQ.lst R hf v2 (h _ ?_ ?_)⟩
  · rw [← e1]; exact h2.perm.map _
  · exact List.pairwise_map.mpr h1
end
end DL

namespace DL
open PySem PySem.Spec PyProof.Rows L2

def boolsOf : List D → Option (List Bool)
  | [] => some []
  | .bl b :: r => (boolsOf r).map (b :: ·)
  | _ :: _ => none
def strsOf : List D → Option (List Str)
  | [] => some []
  | .str b :: r => (strsOf r).map (b :: ·)
  | _ :: _ => none
/-- what stands in a list (read only) -/
def lstS (d : D) (S : DS) (k : List D → Prop) : Prop := match d with
  | .ref a => bindO (lstAt S a) k
  | _ => False
def lenS (d : D) (S : DS) (k : Int → Prop) : Prop := match d with
  | .tup ds => k ds.length
  | .str z => z.length ≤ sizeLine ∧ k z.length
  | .ref a => bindO (lstAt S a) fun ds => k ds.length
  | _ => False
/-- built-in functions -/
def bltS (G : GS) (ns : List Str) (fn : String) (ds : List D) (S : DS) (Q : QE) : Prop := match fn, ds with
  | "len", [d] => lenS d S fun n => Q (.int n) S
  | "abs", [.int i] => Q (.int i.natAbs) S
  | "max", [.int i, .int j] => Q (.int (max i j)) S
  | "min", [.int i, .int j] => Q (.int (min i j)) S
  | "max", [d] => lstS d S fun ds => bindO (tupInts ds) fun is => is ≠ [] ∧ ∀ m, m ∈ is → (∀ y, y ∈ is → y ≤ m) → Q (.int m) S
  | "min", [d] => lstS d S fun ds => bindO (tupInts ds) fun is => is ≠ [] ∧ ∀ m, m ∈ is → (∀ y, y ∈ is → m ≤ y) → Q (.int m) S
  | "sum", [d] => lstS d S fun ds => bindO (tupInts ds) fun is => Q (.int is.sum) S
  | "all", [d] => lstS d S fun ds => bindO (boolsOf ds) fun bs => Q (.bl (bs.all id)) S
  | "any", [d] => lstS d S fun ds => bindO (boolsOf ds) fun bs => Q (.bl (bs.any id)) S
  | "repr", [d] => reprS d S fun t => Q (.str t) S
  | "isinstance", [d, c] => (∀ n d', d = .exc n d' → n ∈ ns) ∧ bindO (isiS G d c S) fun b => Q (.bl b) S
  | "sorted", [d] => lstS d S fun ds => (∃ is, tupInts ds = some is ∧ ∀ is' : List Int, is'.Perm is → is'.Pairwise (· ≤ ·) → ∀ p, S.mem p = none → Q (.ref p) (S.put p (.lst (is'.map .int)))) ∨
      (∃ ps : List (Int × Int), ds = ps.map pairD ∧ ∀ qs : List (Int × Int), qs.Perm ps → qs.Pairwise leP → ∀ p, S.mem p = none → Q (.ref p) (S.put p (.lst (qs.map pairD)))) ∨
      (ds.length < 64 ∧ ∃ xs, strsOf ds = some xs ∧ ∀ ys : List Str, ys.Perm xs → sortedS ys = true → ∀ p, S.mem p = none → Q (.ref p) (S.put p (.lst (ys.map .str))))
  | _, _ => False
/-- built-in types, called -/
def btyS (T : String) (ds : List D) (S : DS) (Q : QE) : Prop := match T, ds with
  | "int", [.int i] => Q (.int i) S
  | "int", [.bl b] => Q (.int (if b then 1 else 0)) S
  | "str", [.int i] => i.natAbs.log2 < 1920 ∧ Q (.str (toString i)) S
  | "str", [.str x] => Q (.str x) S
  | "tuple", [.tup ds] => Q (.tup ds) S
  | "tuple", [.ref a] => bindO (lstAt S a) fun ds => Q (.tup ds) S
  | "list", [.tup ds] => ∀ p, S.mem p = none → Q (.ref p) (S.put p (.lst ds))
  | "list", [.ref a] => bindO (lstAt S a) fun ds => ∀ p, S.mem p = none → Q (.ref p) (S.put p (.lst ds))
  | _, _ => False
section
variable {G : GS} {X : Cx} {S0 : DS} {σ : L2.St} {H : Hp} {ρ : Rho} {S : DS} {s : Shared} {pins : List (Addr × Obj)}
theorem Dats.bools {K : PySem.W.Frag} {G : GS} {H : Hp} : ∀ {ds : List D} {vs : List V} {ns : List Bool}, Dats K G H ds vs → boolsOf ds = some ns → vs = ns.map V.bl
  | [], vs, ns, h, e => by cases e; exact h
  | d :: ds, vs, ns, h, e => by
    obtain ⟨v, r, rfl, h1, h2⟩ := h.cases1
    cases d with
    | bl i =>
      unfold boolsOf at e
      cases q : boolsOf ds with
      | none => rw [q] at e; cases e
      | some ms =>
        rw [q] at e; cases e
        rw [h2.bools q, show v = V.bl i from h1]; rfl
    | _ => cases e
theorem Dats.strs {K : PySem.W.Frag} {G : GS} {H : Hp} : ∀ {ds : List D} {vs : List V} {ns : List Str}, Dats K G H ds vs → strsOf ds = some ns → vs = ns.map V.str
  | [], vs, ns, h, e => by cases e; exact h
  | d :: ds, vs, ns, h, e => by
    obtain ⟨v, r, rfl, h1, h2⟩ := h.cases1
    cases d with
    | str i =>
      unfold strsOf at e
      cases q : strsOf ds with
      | none => rw [q] at e; cases e
      | some ms =>
        rw [q] at e; cases e
        rw [h2.strs q, show v = V.str i from h1]; rfl
    | _ => cases e
theorem Dats.ofInts {K : PySem.W.Frag} {G : GS} {H : Hp} : ∀ (is : List Int), Dats K G H (is.map .int) (is.map V.int)
  | [] => rfl
  | i :: is => Dats.cons (d := .int i) (v := .int i) rfl (Dats.ofInts is)
theorem Dats.ofStrs {K : PySem.W.Frag} {G : GS} {H : Hp} : ∀ (is : List Str), Dats K G H (is.map .str) (is.map V.str)
  | [] => rfl
  | i :: is => Dats.cons (d := .str i) (v := .str i) rfl (Dats.ofStrs is)
theorem one_val {d : D} {vs : List V} (h : Dats X.K G H [d] vs) : ∃ v, vs = [v] ∧ Dat X.K G H d v := by
  obtain ⟨v, r, rfl, hv, hr⟩ := h.cases1
  cases (show r = [] from hr)
  exact ⟨v, rfl, hv⟩
theorem two_vals {d e : D} {vs : List V} (h : Dats X.K G H [d, e] vs) : ∃ v w, vs = [v, w] ∧ Dat X.K G H d v ∧ Dat X.K G H e w := by
  obtain ⟨v, r, rfl, hv, hr⟩ := h.cases1
  obtain ⟨w, rfl, hw⟩ := one_val hr
  exact ⟨v, w, rfl, hv, hw⟩
theorem lstS_ex {d : D} {k : List D → Prop} (h : lstS d S k) : ∃ a ds, d = .ref a ∧ lstAt S a = some ds ∧ k ds := by
  unfold lstS at h
  split at h
  · obtain ⟨ds, e, q⟩ := bindO_some h
    exact ⟨_, ds, rfl, e, q⟩
  · exact h.elim
variable {ns : List Str} {k : Nat}
/-- a list of ints, read by a rule of HandS -/
theorem via_ints {id : String} {r : List V → Hp → VK → Prop} (hc : CallR X (.builtin id) r) {P : List Int → QE → DS → Prop} (hr : ∀ (a : Addr) (is : List Int) (H : Hp) (Qv : VK), SqL X.K H a (is.map V.int) → ∀ ρ σ S Q, Rep G X S0 σ H ρ S → P is Q S → (∀ i : Int, Q (.int i) S → Qv (.int i) H) → r [.ref a] H Qv) :
    CallD G X S0 (.builtin id) (fun ds S Q => ∃ d, ds = [d] ∧ lstS d S fun ds => bindO (tupInts ds) fun is => P is Q S) := by
  intro pins s σ H ρ S vs us ds Q I R rv hds h
  obtain ⟨d, rfl, h⟩ := h
  obtain ⟨a, ds, rfl, e1, h⟩ := lstS_ex h
  obtain ⟨is, e2, h⟩ := bindO_some h
  obtain ⟨v, rfl, hv⟩ := one_val hds
  cases (show v = .ref a from hv)
  obtain ⟨ws, hs, hd⟩ := lstAt_sq (K := X.K) R e1
  rw [hd.ints e2] at hs
  refine thn (hc pins s σ H [.ref a] us (HQ G X S0 σ ρ H S Q) I rv (hr a is H _ hs ρ σ S Q R h fun i q => HQ.same (d := .int i) R rfl q)) fun _ _ => of_EP
theorem call_blt (hcalm : X.calm = true) (hr : RoomD k X.A) (hd : X.base.NoDigits) (XO : ExcsOk X.K G ns) (id : String) : CallD G X S0 (.builtin id) (bltS G ns id) := by
  intro pins s σ H ρ S vs us ds Q I R rv hds h
  unfold bltS at h
  split at h
  · -- len
    rename_i d
    unfold lenS at h
    split at h
    · rename_i ds
      obtain ⟨v, rfl, hv⟩ := one_val hds
      unfold Dat at hv
      obtain ⟨a, ws, rfl, hs, hw⟩ := hv
      exact thn (call_len_seq pins s σ H _ us (HQ G X S0 σ ρ H S Q) I rv ⟨a, ws, rfl, .inr hs, by rw [← hw.length]; exact HQ.same (d := .int ds.length) R rfl h⟩) fun _ _ => of_EP
    · rename_i z
      obtain ⟨v, rfl, hv⟩ := one_val hds
      cases (show v = .str z from hv)
      exact thn (call_len_str pins s σ H _ us (HQ G X S0 σ ρ H S Q) I rv ⟨z, rfl, h.1, HQ.same (d := .int z.length) R rfl h.2⟩) fun _ _ => of_EP
    · rename_i a
      obtain ⟨v, rfl, hv⟩ := one_val hds
      cases (show v = .ref a from hv)
      obtain ⟨ds, e1, h⟩ := bindO_some h
      obtain ⟨ws, hs, hw⟩ := lstAt_sq (K := X.K) R e1
      exact thn (call_len_seq pins s σ H _ us (HQ G X S0 σ ρ H S Q) I rv ⟨a, ws, rfl, .inl hs, by rw [← hw.length]; exact HQ.same (d := .int ds.length) R rfl h⟩) fun _ _ => of_EP
    · exact h.elim
  · rename_i i
    obtain ⟨v, rfl, hv⟩ := one_val hds
    cases (show v = .int i from hv)
    refine thn (call_abs pins s σ H _ us (HQ G X S0 σ ρ H S Q) I rv ⟨i, rfl, ?_⟩) fun _ _ => of_EP
    have e : (if i < 0 then -i else i) = (i.natAbs : Int) := by split <;> omega
    rw [e]
    exact HQ.same (d := .int i.natAbs) R rfl h
  · rename_i i j
    obtain ⟨v, w, rfl, hv, hw⟩ := two_vals hds
    cases (show v = .int i from hv)
    cases (show w = .int j from hw)
    refine thn (call_max2 hcalm pins s σ H _ us (HQ G X S0 σ ρ H S Q) I rv ⟨i, j, rfl, ?_⟩) fun _ _ => of_EP
    have e : (if j > i then j else i) = max i j := by split <;> omega
    rw [e]
    exact HQ.same (d := .int (max i j)) R rfl h
  · rename_i i j
    obtain ⟨v, w, rfl, hv, hw⟩ := two_vals hds
    cases (show v = .int i from hv)
    cases (show w = .int j from hw)
    refine thn (call_min2 hcalm pins s σ H _ us (HQ G X S0 σ ρ H S Q) I rv ⟨i, j, rfl, ?_⟩) fun _ _ => of_EP
    have e : (if j < i then j else i) = min i j := by split <;> omega
    rw [e]
    exact HQ.same (d := .int (min i j)) R rfl h
  · rename_i d
    exact via_ints (cr_max hcalm) (P := fun is Q S => is ≠ [] ∧ ∀ m, m ∈ is → (∀ y, y ∈ is → y ≤ m) → Q (.int m) S) (fun a is H Qv hs ρ σ S Q R q k => ⟨a, is, rfl, hs, List.length_pos_iff.mpr q.1, fun m h1 h2 => k m (q.2 m h1 h2)⟩) pins s σ H ρ S vs us _ Q I R rv hds ⟨d, rfl, h⟩
  · rename_i d
    exact via_ints (cr_min hcalm) (P := fun is Q S => is ≠ [] ∧ ∀ m, m ∈ is → (∀ y, y ∈ is → m ≤ y) → Q (.int m) S) (fun a is H Qv hs ρ σ S Q R q k => ⟨a, is, rfl, hs, List.length_pos_iff.mpr q.1, fun m h1 h2 => k m (q.2 m h1 h2)⟩) pins s σ H ρ S vs us _ Q I R rv hds ⟨d, rfl, h⟩
  · rename_i d
    exact via_ints (cr_sum hcalm) (P := fun is Q S => Q (.int is.sum) S) (fun a is H Qv hs ρ σ S Q R q k => ⟨a, is, rfl, hs, k _ q⟩) pins s σ H ρ S vs us _ Q I R rv hds ⟨d, rfl, h⟩
  · rename_i d
    obtain ⟨a, ds, rfl, e1, h⟩ := lstS_ex h
    obtain ⟨bs, e2, h⟩ := bindO_some h
    obtain ⟨v, rfl, hv⟩ := one_val hds
    cases (show v = .ref a from hv)
    obtain ⟨ws, hs, hw⟩ := lstAt_sq (K := X.K) R e1
    rw [hw.bools e2] at hs
    exact thn (cr_all hcalm pins s σ H _ us (HQ G X S0 σ ρ H S Q) I rv ⟨a, bs, rfl, hs, HQ.same (d := .bl _) R rfl h⟩) fun _ _ => of_EP
  · rename_i d
    obtain ⟨a, ds, rfl, e1, h⟩ := lstS_ex h
    obtain ⟨bs, e2, h⟩ := bindO_some h
    obtain ⟨v, rfl, hv⟩ := one_val hds
    cases (show v = .ref a from hv)
    obtain ⟨ws, hs, hw⟩ := lstAt_sq (K := X.K) R e1
    rw [hw.bools e2] at hs
    exact thn (cr_any hcalm pins s σ H _ us (HQ G X S0 σ ρ H S Q) I rv ⟨a, bs, rfl, hs, HQ.same (d := .bl _) R rfl h⟩) fun _ _ => of_EP
  · rename_i d
    exact call_repr hd hr pins s σ H ρ S vs us _ Q I R rv hds ⟨d, rfl, h⟩
  · rename_i d c
    exact call_isiD XO pins s σ H ρ S vs us _ Q I R rv hds ⟨d, c, rfl, h.1, h.2⟩
  · rename_i d
    obtain ⟨a, ds, rfl, e1, h⟩ := lstS_ex h
    obtain ⟨v, rfl, hv⟩ := one_val hds
    cases (show v = .ref a from hv)
    obtain ⟨ws, hs, hw⟩ := lstAt_sq (K := X.K) R e1
    have hl := hw.length
    rcases h with ⟨is, e2, h⟩ | ⟨ps, rfl, h⟩ | ⟨h64, xs, e2, h⟩
    · rw [hw.ints e2] at hs hl
      exact thn (cr_sortedI pins s σ H _ us (HQ G X S0 σ ρ H S Q) I rv ⟨a, is, rfl, hs, fun is' p h1 h2 hp => HQ.lst R hp (Dats.ofInts is') (h is' h1 h2)⟩) fun _ _ => of_EP
    · obtain ⟨u, rfl, ru⟩ := vals1 rv
      obtain rfl : u = Value.ref a := ru
      exact sortP_run I R hs hw h
    · rw [hw.strs e2] at hs hl
      exact thn (cr_sortedS pins s σ H _ us (HQ G X S0 σ ρ H S Q) I rv ⟨a, xs, rfl, hs, by rw [List.length_map] at hl; omega, fun is' p h1 h2 hp => HQ.lst R hp (Dats.ofStrs is') (h is' h1 h2)⟩) fun _ _ => of_EP
  · exact h.elim
theorem call_bty (hcalm : X.calm = true) (T : String) : CallD G X S0 (.type T) (btyS T) := by
  intro pins s σ H ρ S vs us ds Q I R rv hds h
  unfold btyS at h
  split at h
  · rename_i i
    obtain ⟨v, rfl, hv⟩ := one_val hds
    cases (show v = .int i from hv)
    exact thn (call_int1 pins s σ H _ us (HQ G X S0 σ ρ H S Q) I rv (.inl ⟨i, rfl, HQ.same (d := .int i) R rfl h⟩)) fun _ _ => of_EP
  · rename_i b
    obtain ⟨v, rfl, hv⟩ := one_val hds
    cases (show v = .bl b from hv)
    exact thn (call_int1 pins s σ H _ us (HQ G X S0 σ ρ H S Q) I rv (.inr ⟨b, rfl, HQ.same (d := .int _) R rfl h⟩)) fun _ _ => of_EP
  · rename_i i
    obtain ⟨v, rfl, hv⟩ := one_val hds
    cases (show v = .int i from hv)
    exact thn (call_str_int pins s σ H _ us (HQ G X S0 σ ρ H S Q) I rv ⟨i, rfl, h.1, HQ.same (d := .str _) R rfl h.2⟩) fun _ _ => of_EP
  · rename_i x
    obtain ⟨v, rfl, hv⟩ := one_val hds
    cases (show v = .str x from hv)
    exact thn (SkE.call_str_str pins s σ H _ us (HQ G X S0 σ ρ H S Q) I rv ⟨x, rfl, HQ.same (d := .str x) R rfl h⟩) fun _ _ => of_EP
  · rename_i ds
    obtain ⟨v, rfl, hv⟩ := one_val hds
    have hv0 := hv
    unfold Dat at hv
    obtain ⟨a, ws, rfl, hs, hw⟩ := hv
    exact thn (call_tuple_of pins s σ H _ us (HQ G X S0 σ ρ H S Q) I rv ⟨a, ws, rfl, .inr ⟨hs, HQ.same R hv0 h⟩⟩) fun _ _ => of_EP
  · rename_i a
    obtain ⟨v, rfl, hv⟩ := one_val hds
    cases (show v = .ref a from hv)
    obtain ⟨ds, e1, h⟩ := bindO_some h
    obtain ⟨ws, hs, hw⟩ := lstAt_sq (K := X.K) R e1
    exact thn (call_tuple_of pins s σ H _ us (HQ G X S0 σ ρ H S Q) I rv ⟨a, ws, rfl, .inl ⟨hs, fun l hl => HQ.tup R hl hw h⟩⟩) fun _ _ => of_EP
  · rename_i ds
    obtain ⟨v, rfl, hv⟩ := one_val hds
    unfold Dat at hv
    obtain ⟨a, ws, rfl, hs, hw⟩ := hv
    exact thn (call_list_of pins s σ H _ us (HQ G X S0 σ ρ H S Q) I rv ⟨a, ws, rfl, .inr hs, fun l hl => HQ.lst R hl hw h⟩) fun _ _ => of_EP
  · rename_i a
    obtain ⟨v, rfl, hv⟩ := one_val hds
    cases (show v = .ref a from hv)
    obtain ⟨ds, e1, h⟩ := bindO_some h
    obtain ⟨ws, hs, hw⟩ := lstAt_sq (K := X.K) R e1
    exact thn (call_list_of pins s σ H _ us (HQ G X S0 σ ρ H S Q) I rv ⟨a, ws, rfl, .inl hs, fun l hl => HQ.lst R hl hw h⟩) fun _ _ => of_EP
  · exact h.elim
end
end DL

namespace DL
open PySem PySem.Spec PyProof.Rows L2

/-! ### x[::-1] -/
section
variable {prog : Program} {w : World} {A : Around} {E : Value → Shared → Prop} {s : Shared}
theorem fm_map {α β : Type} {f : α → Option β} {g : α → β} : ∀ {l : List α}, (∀ a ∈ l, f a = some (g a)) → l.filterMap f = l.map g
  | [], _ => rfl
  | a :: l, h => by
    rw [List.filterMap_cons, h a (List.mem_cons_self ..), List.map_cons, fm_map fun b hb => h b (List.mem_cons_of_mem _ hb)]
theorem rev_pick (items : Array Value) : ((List.range items.size).filterMap fun (k : Nat) => items[(((items.size : Int) - 1) + (k : Int) * (-1)).toNat]?) = items.toList.reverse := by
  rw [fm_map (g := fun k => items.toList.reverse.getD k .none) fun k hk => ?_]
  · refine List.ext_getElem (by simp) fun i h1 h2 => ?_
    have h3 : i < items.size := by simpa using h1
    rw [List.getElem_map, List.getElem_range, List.getD_eq_getElem?_getD, List.getElem?_eq_getElem h2]
    rfl
  · have hk : k < items.size := List.mem_range.mp hk
    have h1 : (((items.size : Int) - 1) + (k : Int) * (-1)).toNat = items.size - 1 - k := by omega
    have h2 : k < items.toList.reverse.length := by simpa using hk
    rw [h1, List.getD_eq_getElem?_getD, List.getElem?_eq_getElem h2, List.getElem_reverse]
    have h3 : items.size - 1 - k < items.size := by omega
    rw [Array.getElem?_eq_getElem h3]
    simp
theorem getItem_tuple_rev {t sl : Addr} {items : Array Value} {vs : Value} {Q : Value → Shared → Prop} (ht : IsTup s.heap t items) (hs : s.heap.IsSliceOf sl .none .none vs) (ps : IsPart vs (some (-1)))
    (h : Q (.ref s.heap.objs.size) { s with heap := s.heap.push { cls := .type "tuple", data := .seq items.toList.reverse.toArray } }) (hsz : items.size ≤ sizeLine) : wpAny (model prog w) A (getItem (.ref t) (.ref sl)) Q E s := by
  have htake : sizeOk (.seq items.toList.reverse.toArray) := by
    show items.toList.reverse.toArray.size ≤ sizeLine
    simpa using hsz
  obtain ⟨os, hos, hcs, hds⟩ := id hs
  have hTs : s.TypeIs (.ref sl) "slice" := ⟨os, hos, hcs⟩
  unfold getItem
  try with_reducible refine wpAny_holding ?_
  first | refine wpAny_bind (wpAny_pure ?_) | skip
  refine wpAny_bind (wpAny_sequenceKey ht.typeIs (by decide) ?_)
  refine wpAny_bind (wpAny_callSpecial?_slot (name := Str.ofString "__getitem__") ht.typeIs PyProof.Rows.slot_tuple_getitem
    (wpAny_call_entry PyProof.Rows.slot_tuple_getitem ht.typeIs entry_tuple_getitem ?_ (args_tuple_getitem _ _)))
  show wpAny _ _ (Builtin.Tuple.tupleItemsOf (.ref t) >>= _) _ _ s
  refine wpAny_bind (tupleItemsOf_ ht ?_)
  refine wpAny_bind (wpAny_typeOf hTs ?_)
  rw [if_pos (by decide)]
  refine wpAny_bind ?_
  unfold Builtin.Slice.sliceApplied Builtin.Slice.sliceFields
  refine wpAny_bind (wpAny_bind (wpAny_field hos hds (x := .none) rfl (wpAny_bind (wpAny_field hos hds (x := .none) rfl (wpAny_bind (wpAny_field hos hds (x := vs) rfl (wpAny_pure ?_)))))))
  refine wpAny_bind (HT.slicePart_ ps ?_)
  show wpAny _ _ (if ((-1 : Int) == 0) = true then _ else _) _ _ s
  rw [if_neg (by decide)]
  refine wpAny_bind (slicePart_none (wpAny_bind (slicePart_none (wpAny_bind (wpAny_pure ?_)))))
  show wpAny _ _ (pure (((items.size : Int) - 1), (-1 : Int), Builtin.Slice.slicePlaces ((items.size : Int) - 1) (-1) (-1))) _ _ s
  have hp : Builtin.Slice.slicePlaces ((items.size : Int) - 1) (-1) (-1) = items.size := by
    unfold Builtin.Slice.slicePlaces
    have h1 : ¬ ((-1 : Int) > 0) := by omega
    simp only [h1, if_false, Int.neg_neg, Int.ediv_one]
    split <;> omega
  rw [hp]
  refine wpAny_pure ?_
  show wpAny _ _ (if (((items.size : Int) - 1) == 0 && (-1 : Int) == 1 && items.size == items.size) = true then _ else _) _ _ s
  rw [if_neg (by simp), rev_pick]
  exact wpAny_bind (m := Builtin.Tuple.tupleExact _) (wpAny_newObj_type (wpAny_pure ⟨_, rfl, wpAny_pure h⟩) htake)
end
def revS (d : D) (S : DS) (Q : QE) : Prop := match d with
  | .tup ds => Q (.tup ds.reverse) S
  | .str z => z.length ≤ sizeLine ∧ Q (.str ⟨z.cps.toList.reverse.toArray⟩) S
  | .ref a => bindO (lstAt S a) fun ds => ∀ p, S.mem p = none → Q (.ref p) (S.put p (.lst ds.reverse))
  | _ => False
theorem Dat.tup {K : PySem.W.Frag} {G : GS} {H : Hp} {a : Addr} {vs : List V} {ds : List D} (h : SqT K H a vs) (g : Dats K G H ds vs) : Dat K G H (.tup ds) (.ref a) := by
  unfold Dat
  exact ⟨a, vs, rfl, h, g⟩
theorem str_rev (z : Str) : (Builtin.Str.strSliceIndices none none (-1) z.length).filterMap (z.cps[·]?) = z.cps.toList.reverse := by
  show (sliceRange ((z.cps.size : Int) - 1) (-1) (-1)).filterMap (z.cps[·]?) = _
  rw [PySem.W.krv_sliceRange, PySem.W.krv_range, List.filterMap_reverse, PySem.W.krv_all]
section
variable {G : GS} {X : Cx} {S0 : DS} {σ : L2.St} {H H' : Hp} {ρ : Rho} {S S' : DS} {s : Shared} {pins : List (Addr × Obj)} {e : Expr} {te : DT} {pos : Pos}
theorem de_rev {k : Nat} {p1 p2 p3 : Pos} (he : DE G X S0 e te) : DE G X S0 (.Subscript e (.Slice none none (some (.UnaryOp .USub (.Constant (.int 1) k p1) p2)) p3) pos) (fun ρ S Q => te ρ S fun d S1 => revS d S1 Q) := by
  refine ⟨fun pins s σ H ρ S Q I R h => ?_⟩
  refine Subscript_ (thn (he.run pins s σ H ρ S _ I R h) fun v s1 ⟨x, H1, d1, S1, I1, r1, h1, R1, t1, q1⟩ => ?_)
  have hst : PO X (some (.UnaryOp .USub (.Constant (.int 1) k p1) p2)) (tPart (tUn (rU fun i => .int (-i)) (tC (.int 1)))) := po_some (pe_un un_neg pe_int)
  refine wpAny_Slice (thn (po_none.run pins s1 σ H1 (fun o H2 => o = none ∧ H2 = H1) I1 ⟨rfl, rfl⟩) fun vl s2 ⟨l, H2, I2, pl, el, e2⟩ => ?_)
  subst el e2
  refine thn (po_none.run pins s2 σ H2 (fun o H3 => o = none ∧ H3 = H2) I2 ⟨rfl, rfl⟩) fun vu s3 ⟨u, H3, I3, pu, eu, e3⟩ => ?_
  subst eu e3
  refine thn (hst.run pins s3 σ H3 (fun o H4 => o = some (-1) ∧ H4 = H3) I3 ⟨1, rfl, -1, rfl, rfl, rfl⟩) fun vs s4 ⟨o, H4, I4, ps, eo, e4⟩ => ?_
  subst eo e4
  have I5 : Inv X pins σ H4 { s4 with heap := s4.heap.push { cls := .type "slice", data := .fields #[vl, vu, vs] } } := I4.kept (t' := s4.toks) fun b ob q => Heap.get?_push_of_some _ q
  cases pl
  cases pu
  have hso : (s4.heap.push { cls := .type "slice", data := .fields #[Value.none, Value.none, vs] }).IsSliceOf s4.heap.objs.size .none .none vs := Heap.IsSliceOf.new _ _ _ _
  show wpAny (model X.prog X.w) X.A (subscriptTail e (.Slice none none (some (.UnaryOp .USub (.Constant (.int 1) k p1) p2)) p3) v (.ref s4.heap.objs.size)) (DP G X S0 pins σ ρ H S Q) X.xe { s4 with heap := s4.heap.push { cls := .type "slice", data := .fields #[Value.none, Value.none, vs] } }
  cases d1 with
  | tup ds =>
    unfold Dat at h1
    obtain ⟨a, ws, rfl, hs, hd⟩ := h1
    cases (show v = Value.ref a from r1)
    obtain ⟨its, r, ht, hz⟩ := I5.tuple hs
    refine tail_any (ops := [.ref a, .ref s4.heap.objs.size]) ht.typeIs PyProof.Rows.slot_tuple_getitem.lookup (getItem_tuple_rev ht hso ps ?_ (by rw [List.size_toArray, ← r.length]; exact hz)) (by with_unfolding_all rfl)
    have hl : ws.reverse.length ≤ sizeLine := by rw [List.length_reverse]; exact hz
    have I6 := I5.laid (t' := s4.toks) (o := .tup ws.reverse) (fun b ob q => Heap.get?_push_of_some _ q) (Nat.le_refl _) ⟨hl, its.reverse, r.reverse, IsTup.new _ _⟩
    have hn := I5.hok.fresh (Nat.le_refl _)
    obtain ⟨R6, t6⟩ := R1.grow (upd_grow (o := .tup ws.reverse) hn)
    exact ⟨.ref _, _, .tup ds.reverse, S1, I6, rfl, Dat.tup (SqT.of upd_same) (Dats.mono t6.k _ _ hd.reverse), R6, t1.trans t6, q1⟩
  | str z =>
    cases (show x = .str z from h1)
    obtain ⟨t, rfl⟩ := r1
    obtain ⟨st, rfl⟩ : ∃ t, vs = Value.int (-1) t := by cases ps; exact ⟨_, rfl⟩
    refine tail_any (ops := [.str z t, .ref s4.heap.objs.size]) (typeIs_str _ _ _) PySem.F.slot_str_getitem.lookup (wpAny_getItem_str_slice (l := none) (u := none) (st := some (-1, st)) hso rfl ?_) (by with_unfolding_all rfl)
    show Made.post (if (((-1 : Int) == 1) && (Builtin.Str.strSliceIndices none none (-1) z.length).length == z.length) = true then Made.val (.str z t) else Made.str ⟨((Builtin.Str.strSliceIndices none none (-1) z.length).filterMap (z.cps[·]?)).toArray⟩) _ _
    rw [if_neg (by simp), str_rev]
    refine ⟨?_, .str _, H4, .str _, S1, I5.tok _, ⟨_, rfl⟩, rfl, R1, t1, q1.2⟩
    have := q1.1
    show (Str.mk z.cps.toList.reverse.toArray).length ≤ _
    have e : (Str.mk z.cps.toList.reverse.toArray).length = z.length := by simp [Str.length]
    rw [e]; exact this
  | ref a =>
    obtain ⟨ds, e1, q⟩ := bindO_some q1
    cases (show x = .ref a from h1)
    cases (show v = Value.ref a from r1)
    obtain ⟨ws, hs, hd⟩ := lstAt_sq (K := X.K) R1 e1
    obtain ⟨its, r, ht, hz⟩ := I5.list hs
    have hlen := r.length
    refine tail_any (ops := [.ref a, .ref s4.heap.objs.size]) ht.isList.typeIs (PySem.slot_list_getitem.lookup) ?_ (by with_unfolding_all rfl)
    refine wpAny_getItem_list_slice ht.isList hso .none .none ps (by decide) ?_ (by rw [List.size_toArray]; omega)
    rw [PySem.W.krv_pick]
    have hl : ws.reverse.length ≤ sizeLine := by rw [List.length_reverse]; exact hz
    have I6 := I5.laid (t' := s4.toks) (o := .lst ws.reverse) (fun b ob q => Heap.get?_push_of_some _ q) (Nat.le_refl _) ⟨hl, _, 0, r.reverse, Heap.get?_push_size _ rfl⟩
    have hn := I5.hok.fresh (Nat.le_refl _)
    obtain ⟨d', S', h1', h2', h3', h4'⟩ := HQ.lst (Q := Q) R1 hn hd.reverse q
    exact ⟨.ref _, _, d', S', I6, rfl, h1', h2', t1.trans h3', h4'⟩
  | _ => exact (show False from q1).elim
end
end DL

namespace DL
open PySem PySem.Spec PyProof.Rows L2

/-! ### methods of built-in types -/
/-- the method that a name means on a value: the type, the built-in -/
def metTy (name : String) (d : D) (S : DS) : Option (String × String) := match tyName d S, name with
  | some "list", "append" => some ("list", "list.append")
  | some "list", "extend" => some ("list", "list.extend")
  | some "list", "pop" => some ("list", "list.pop")
  | some "str", "upper" => some ("str", "str.upper")
  | some "str", "join" => some ("str", "str.join")
  | some "str", "endswith" => some ("str", "str.endswith")
  | some "str", "count" => some ("str", "str.count")
  | _, _ => none
/-- what the built-in method does -/
def metS (fn : String) (d : D) (ds : List D) (S : DS) (Q : QE) : Prop := match fn, d, ds with
  | "list.append", .ref a, [x] => ∃ xs, S.mem a = some (.lst xs) ∧ xs.length < sizeLine ∧ Q .non (S.put a (.lst (xs ++ [x])))
  | "list.extend", .ref a, [.ref b] => ∃ xs ys, S.mem a = some (.lst xs) ∧ S.mem b = some (.lst ys) ∧ xs.length + ys.length ≤ sizeLine ∧ Q .non (S.put a (.lst (xs ++ ys)))
  | "list.pop", .ref a, [] => ∃ xs y, S.mem a = some (.lst (xs ++ [y])) ∧ Q y (S.put a (.lst xs))
  | "list.pop", .ref a, [.int i] => ∃ xs y k, S.mem a = some (.lst xs) ∧ -(2 ^ 63) ≤ i ∧ i < 2 ^ 63 ∧ seqIndex? i xs.length = some k ∧ xs[k]? = some y ∧ Q y (S.put a (.lst (xs.eraseIdx k)))
  | "str.upper", .str z, [] => z.length ≤ 5592405 ∧ Q (.str (Txt.upper z)) S
  | "str.join", .str z, [x] => ∃ ds ys, (x = .tup ds ∨ ∃ a, x = .ref a ∧ lstAt S a = some ds) ∧ strsOf ds = some ys ∧ (ys.map (·.length)).sum + ys.length * z.length ≤ 16777216 ∧ Q (.str (Txt.join z ys)) S
  | "str.endswith", .str z, [.str y] => Q (.bl (Txt.endswith z y)) S
  | "str.count", .str z, [.str y] => Q (.int (Txt.count z y)) S
  | _, _, _ => False
section
variable {G : GS} {X : Cx} {S0 : DS} {σ : L2.St} {H H' : Hp} {ρ : Rho} {S S' : DS} {s : Shared} {pins : List (Addr × Obj)} {e o : Expr} {es : List Expr} {te to : DT} {t : DTA} {pos apos cpos p : Pos} {name : Str} {Q : QE}
/-- a told list has been rewritten -/
theorem HQ.lset {a : Addr} {xs : List V} {ds : List D} {ys : List V} {d : D} {v : V} (R : Rep G X S0 σ H ρ S) (hH : H a = some (.lst xs)) (hS : S.mem a ≠ none) (h : Dats X.K G H ds ys) (hd : Dat X.K G H d v) (q : Q d (S.put a (.lst ds))) : HQ G X S0 σ ρ H S Q v (upd H a (.lst ys)) := by
  have k : Kept H (upd H a (.lst ys)) := fun b o im e => by
    rw [upd_ne (fun z => by subst z; rw [hH] at e; cases e; cases im)]; exact e
  obtain ⟨R', t'⟩ := R.setM (m := .lst ds) hH rfl rfl hS ⟨ys, upd_same, Dats.mono k _ _ h⟩
  exact ⟨d, _, Dat.mono k _ _ hd, R', t', q⟩
theorem Dats.app1 {K : PySem.W.Frag} {G : GS} {H : Hp} {ds : List D} {d : D} {vs : List V} (h : Dats K G H (ds ++ [d]) vs) : ∃ ws w, vs = ws ++ [w] ∧ Dats K G H ds ws ∧ Dat K G H d w := by
  induction ds generalizing vs with
  | nil =>
    obtain ⟨v, r, rfl, hv, hr⟩ := h.cases1
    cases (show r = [] from hr)
    exact ⟨[], v, rfl, rfl, hv⟩
  | cons x ds ih =>
    obtain ⟨v, r, rfl, hv, hr⟩ := Dats.cases1 (ds := ds ++ [d]) h
    obtain ⟨ws, w, rfl, h1, h2⟩ := ih hr
    exact ⟨v :: ws, w, rfl, Dats.cons hv h1, h2⟩
theorem Dats.erase {K : PySem.W.Frag} {G : GS} {H : Hp} : ∀ {ds : List D} {vs : List V} (i : Nat), Dats K G H ds vs → Dats K G H (ds.eraseIdx i) (vs.eraseIdx i)
  | [], vs, i, h => by
    have e : vs = [] := h
    subst e; simp [Dats]
  | d :: ds, vs, 0, h => by
    obtain ⟨v, r, rfl, h1, h2⟩ := h.cases1
    exact h2
  | d :: ds, vs, i + 1, h => by
    obtain ⟨v, r, rfl, h1, h2⟩ := h.cases1
    exact Dats.cons h1 (Dats.erase i h2)
theorem met_ok (id : String) : MtD G X S0 id (metS id) := by
  intro pins s σ H ρ S x v d vs us ds Q I R rx hx rv hds h
  unfold metS at h
  split at h
  · rename_i a y
    obtain ⟨xs, e1, hz, q⟩ := h
    cases (show x = .ref a from hx)
    obtain ⟨w, rfl, hw⟩ := one_val hds
    obtain ⟨ws, hH, hd⟩ := R.mem a _ e1
    exact thn (mt_append pins s σ H _ _ v us (HQ G X S0 σ ρ H S Q) I rx rv ⟨a, ws, w, rfl, rfl, hH, by rw [← hd.length]; exact hz, HQ.lset (d := .non) (v := .non) R hH (by rw [e1]; simp) (hd.append (Dats.one hw)) rfl q⟩) fun _ _ => of_EP
  · rename_i a b
    obtain ⟨xs, ys, e1, e2, hz, q⟩ := h
    cases (show x = .ref a from hx)
    obtain ⟨w, rfl, hw⟩ := one_val hds
    cases (show w = .ref b from hw)
    obtain ⟨ws, hH, hd⟩ := R.mem a _ e1
    obtain ⟨zs, hB, hb⟩ := R.mem b _ e2
    exact thn (mt_extend pins s σ H _ _ v us (HQ G X S0 σ ρ H S Q) I rx rv ⟨a, b, ws, zs, rfl, rfl, hH, hB, by rw [← hd.length, ← hb.length]; exact hz, HQ.lset (d := .non) (v := .non) R hH (by rw [e1]; simp) (hd.append hb) rfl q⟩) fun _ _ => of_EP
  · rename_i a
    obtain ⟨xs, y, e1, q⟩ := h
    cases (show x = .ref a from hx)
    cases (show vs = [] from hds)
    obtain ⟨ws, hH, hd⟩ := R.mem a _ e1
    obtain ⟨ws', w, rfl, h1, h2⟩ := hd.app1
    refine thn (mt_pop pins s σ H _ _ v us (HQ G X S0 σ ρ H S Q) I rx rv ⟨a, ws' ++ [w], w, rfl, rfl, hH, by simp, ?_⟩) fun _ _ => of_EP
    rw [List.dropLast_concat]
    exact HQ.lset R hH (by rw [e1]; simp) h1 h2 q
  · rename_i a i
    obtain ⟨xs, y, k, e1, i1, i2, i3, i4, q⟩ := h
    cases (show x = .ref a from hx)
    obtain ⟨w, rfl, hw⟩ := one_val hds
    cases (show w = .int i from hw)
    obtain ⟨ws, hH, hd⟩ := R.mem a _ e1
    obtain ⟨yv, h1, h2⟩ := hd.get i4
    exact thn (mt_popAt pins s σ H _ _ v us (HQ G X S0 σ ρ H S Q) I rx rv ⟨a, ws, i, k, yv, rfl, rfl, hH, i1, i2, by rw [← hd.length]; exact i3, h1, HQ.lset R hH (by rw [e1]; simp) (hd.erase k) h2 q⟩) fun _ _ => of_EP
  · rename_i z
    cases (show x = .str z from hx)
    cases (show vs = [] from hds)
    exact thn (mt_upper pins s σ H _ _ v us (HQ G X S0 σ ρ H S Q) I rx rv ⟨z, rfl, rfl, h.1, HQ.same (d := .str _) R rfl h.2⟩) fun _ _ => of_EP
  · rename_i z y
    obtain ⟨ds, ys, hy, e2, hz, q⟩ := h
    cases (show x = .str z from hx)
    obtain ⟨w, rfl, hw⟩ := one_val hds
    have fin : ∀ a, w = .ref a → (SqL X.K H a (ys.map V.str) ∨ SqT X.K H a (ys.map V.str)) → wpAny (model X.prog X.w) X.A (call (.builtin "str.join") (v :: us)) (DP G X S0 pins σ ρ H S Q) X.xe s := fun a e h => by
      subst e
      exact thn (mt_join pins s σ H _ _ v us (HQ G X S0 σ ρ H S Q) I rx rv ⟨z, a, ys, rfl, rfl, h, hz, HQ.same (d := .str _) R rfl q⟩) fun _ _ => of_EP
    rcases hy with rfl | ⟨a, rfl, e1⟩
    · unfold Dat at hw
      obtain ⟨a, ws, rfl, hs, hd⟩ := hw
      rw [hd.strs e2] at hs
      exact fin a rfl (.inr hs)
    · cases (show w = .ref a from hw)
      obtain ⟨ws, hs, hd⟩ := lstAt_sq (K := X.K) R e1
      rw [hd.strs e2] at hs
      exact fin a rfl (.inl hs)
  · rename_i z y
    cases (show x = .str z from hx)
    obtain ⟨w, rfl, hw⟩ := one_val hds
    cases (show w = .str y from hw)
    exact thn (mt_endswith pins s σ H _ _ v us (HQ G X S0 σ ρ H S Q) I rx rv ⟨z, y, rfl, rfl, HQ.same (d := .bl _) R rfl h⟩) fun _ _ => of_EP
  · rename_i z y
    cases (show x = .str z from hx)
    obtain ⟨w, rfl, hw⟩ := one_val hds
    cases (show w = .str y from hw)
    exact thn (mt_count pins s σ H _ _ v us (HQ G X S0 σ ρ H S Q) I rx rv ⟨z, y, rfl, rfl, HQ.same (d := .int _) R rfl h⟩) fun _ _ => of_EP
  · exact h.elim
/-- what the tables say of a method -/
theorem metTy_ok {nm : String} {d : D} {T id : String} (hn : name = Str.ofString nm) (h : metTy nm d S = some (T, id)) : PlainAttrs T ∧ Slot T name id ∧ typeOf (.builtin id) = pure (.type "method_descriptor") ∧ tyName d S = some T ∧ (T = "list" ∨ T = "str" ∨ T = "dict") := by
  subst hn
  unfold metTy at h
  split at h <;> cases h <;> rename_i e <;> first
    | exact ⟨PySem.F.plainAttrs_list, PySem.F.slot_list_append, PySem.F.type_list_append, e, .inl rfl⟩
    | exact ⟨PySem.F.plainAttrs_list, PySem.F.slot_list_extend, PySem.F.type_list_extend, e, .inl rfl⟩
    | exact ⟨PySem.F.plainAttrs_list, PySem.F.slot_list_pop, PySem.F.type_list_pop, e, .inl rfl⟩
    | exact ⟨PySem.F.plainAttrs_str, PySem.F.slot_str_upper, PySem.F.type_str_upper, e, .inr (.inl rfl)⟩
    | exact ⟨PySem.F.plainAttrs_str, PySem.F.slot_str_join, PySem.F.type_str_join, e, .inr (.inl rfl)⟩
    | exact ⟨PySem.F.plainAttrs_str, PySem.F.slot_str_endswith, PySem.F.type_str_endswith, e, .inr (.inl rfl)⟩
    | exact ⟨PySem.F.plainAttrs_str, PySem.F.slot_str_count, PySem.F.type_str_count, e, .inr (.inl rfl)⟩
theorem ty_at {d : D} {x : V} {v : Value} {T : String} (I : Inv X pins σ H s) (R : Rep G X S0 σ H ρ S) (r : RelV x v) (h : Dat X.K G H d x) (e : tyName d S = some T) (hT : T = "list" ∨ T = "str" ∨ T = "dict") :
    s.TypeIs v T ∧ ∀ a, v = .ref a → ∃ ob, s.heap.get? a = some ob ∧ ob.dict = none := by
  cases d with
  | str z =>
    cases e
    exact tyD_is I R r h (show tyD "str" (.str z) S from rfl)
  | ref a =>
    simp only [tyName] at e
    cases q : S.mem a with
    | none => rw [q] at e; cases e
    | some m =>
      rw [q] at e
      cases m with
      | lst ds => cases e; exact tyD_is I R r h (show tyD "list" (.ref a) S from .inl ⟨rfl, ds, by unfold lstAt; rw [q]⟩)
      | ro ds => cases e; exact tyD_is I R r h (show tyD "list" (.ref a) S from .inl ⟨rfl, ds, by unfold lstAt; rw [q]⟩)
      | dk kvs => cases e; exact tyD_is I R r h (show tyD "dict" (.ref a) S from .inr ⟨rfl, kvs, q⟩)
  | non => cases e; exact absurd hT (by decide)
  | bl b => cases e; exact absurd hT (by decide)
  | int b => cases e; exact absurd hT (by decide)
  | tup b => cases e; exact absurd hT (by decide)
  | _ => cases e
theorem de_met0 {nm : String} (hn : name = Str.ofString nm) (ho : DE G X S0 o to) (hbase : attributeBase o name X.env (eval o X.env) = eval o X.env) (hline : (apos.endLine == cpos.line) = true) :
    DE G X S0 (.Call (.Attribute o name apos) [] [] cpos) (fun ρ S Q => to ρ S fun d S1 => bindO (metTy nm d S1) fun ti => metS ti.2 d [] S1 Q) := by
  refine ⟨fun pins s σ H ρ S Q I R h => ?_⟩
  refine wpAny_Call_method0_late hbase hline (thn (ho.run pins s σ H ρ S _ I R h) fun v s1 ⟨x, H1, d1, S1, I1, r1, h1, R1, t1, q1⟩ => ?_)
  obtain ⟨⟨T, id⟩, e, q⟩ := bindO_some q1
  obtain ⟨pa, slot, hty, e2, hT⟩ := metTy_ok hn e
  obtain ⟨k1, k2⟩ := ty_at I1 R1 r1 h1 e2 hT
  exact ⟨T, id, pa, slot, hty, k1, k2, Calls.callWith_builtin rfl (PySem.evalArgs_none (thn (met_ok id pins s1 σ H1 ρ S1 x v d1 [] [] [] Q I1 R1 r1 h1 .nil rfl q) fun _ _ z => z.after t1))⟩
theorem de_metA {nm : String} (hn : name = Str.ofString nm) (ho : DE G X S0 o to) (ha : DA G X S0 (e :: es) t)
    (hbase : attributeBase o name X.env (eval o X.env) = eval o X.env) (hline : (apos.endLine == cpos.line) = true) (hs : (e :: es).all (fun e => !isStar e) = true) (hlen : (e :: es).length < 20) :
    DE G X S0 (.Call (.Attribute o name apos) (e :: es) [] cpos) (fun ρ S Q => to ρ S fun d S1 => bindO (metTy nm d S1) fun ti => t ρ S1 fun ds S2 => metS ti.2 d ds S2 Q) := by
  refine ⟨fun pins s σ H ρ S Q I R h => ?_⟩
  have hs' := hs
  simp only [List.all_cons, Bool.and_eq_true, Bool.not_eq_true'] at hs
  refine wpAny_Call_method_late hbase ?_ hline rfl (thn (ho.run pins s σ H ρ S _ I R h) fun v s1 ⟨x, H1, d1, S1, I1, r1, h1, R1, t1, q1⟩ => ?_)
  · rw [star_len hs' cpos]
    have : decide ((e :: es).length + ([] : List Keyword).length + (if ([] : List Keyword).isEmpty then 0 else 1) < 30) = true := by
      simp only [List.length_nil, List.isEmpty_nil, if_true]
      exact decide_eq_true (by omega)
    rw [this]; rfl
  obtain ⟨⟨T, id⟩, e0, q⟩ := bindO_some q1
  obtain ⟨pa, slot, hty, e2, hT⟩ := metTy_ok hn e0
  obtain ⟨k1, k2⟩ := ty_at I1 R1 r1 h1 e2 hT
  refine ⟨T, id, pa, slot, hty, k1, k2, ?_⟩
  have hA := ha.run cpos pins s1 σ H1 ρ S1 _ I1 R1 q
  rw [star_cons hs.1] at hA ⊢
  refine Calls.callWith_builtin (by show (false || (backTo cpos (starEach es X.env)).any (·.1)) = false; rw [star_none hs.2 cpos]; rfl) (Calls.evalArgs_plain ?_)
  exact thn hA fun us s2 ⟨vs, H2, ds, S2, I2, r2, h2, R2, t2, q2⟩ => thn (met_ok id pins s2 σ H2 ρ S2 x v d1 vs us ds Q I2 R2 r1 (Dat.mono t2.k _ _ h1) r2 h2 q2) fun _ _ z => z.after (t1.trans t2)
end
end DL

namespace DL
open PySem PySem.Spec PyProof.Rows L2

section
variable {G : GS} {X : Cx} {S0 : DS} {σ : L2.St} {H H' : Hp} {ρ : Rho} {S S' : DS} {s : Shared} {pins : List (Addr × Obj)} {e a b c o : Expr} {es : List Expr} {te ta tb to : DT} {t : DTA} {pos p : Pos} {name x y z : Str} {i j l : Nat} {Q : QE}

/-! ### a, b = x, y -/
def par2 (i j : Nat) (ci cj : Bool) (En : DEnds) (ρ : Rho) (ds : List D) (S : DS) : Prop := match ds with
  | [d, f] => En.nx ((ρ.set j (some f)).set i (some d)) ((S.upto cj).upto ci)
  | _ => False
def par3 (i j l : Nat) (ci cj cl : Bool) (En : DEnds) (ρ : Rho) (ds : List D) (S : DS) : Prop := match ds with
  | [d, f, g] => En.nx (((ρ.set l (some g)).set j (some f)).set i (some d)) (((S.upto cl).upto cj).upto ci)
  | _ => False
theorem ds_par2 {px py pt : Pos} {kt k2 : Nat} {pt2 : Pos} (hc : X.calm = true) (hN : X.N.Nodup) (hi : X.N[i]? = some x) (hj : X.N[j]? = some y)
    (hx : X.env.scope.names.lookup x = some .local) (hy : X.env.scope.names.lookup y = some .local) (ha : DA G X S0 [a, b] t)
    (hw : swappedStores [.Tuple [.Name x px, .Name y py] kt pt] (.Tuple [a, b] k2 pt2) X.env = pure (some [x, y]))
    (hs : swapsWithSole [.Tuple [.Name x px, .Name y py] kt pt] (.Tuple [a, b] k2 pt2) pos.line X.env = pure false) :
    DSt G X S0 (.Assign [.Tuple [.Name x px, .Name y py] kt pt] (.Tuple [a, b] k2 pt2) pos) (fun D ρ S => t ρ S fun ds S1 => par2 i j (capN G x) (capN G y) D ρ ds S1) := by
  refine ⟨fun pins s σ H ρ S D I R h => ?_⟩
  rw [exec_Assign_arm]
  refine wpAny_bind (wpAny_standAt ?_)
  rw [hs]
  refine wpAny_bind (wpAny_pure ?_)
  rw [if_neg (by decide)]
  refine wpAny_bind (Tuple_ (thn (ha.run _ pins s σ H ρ S _ I R h) fun us s1 ⟨vs, H1, ds, S1, I1, r1, h1, R1, t1, q1⟩ => ?_))
  replace q1 : par2 i j (capN G x) (capN G y) D ρ ds S1 := q1
  unfold par2 at q1
  split at q1
  · rename_i d f
    obtain ⟨v, w, rfl, hv, hw'⟩ := two_vals h1
    obtain ⟨u1, u2, rfl, rv, rw'⟩ := vals2 r1
    refine wpAny_newObj_type ?_ (by show 2 ≤ sizeLine; decide)
    have I2 : Inv X pins σ H1 { s1 with heap := s1.heap.push { cls := .type "tuple", data := .seq [u1, u2].toArray } } := I1.kept (t' := s1.toks) fun b o e => Heap.get?_push_of_some _ e
    rw [hw]
    refine wpAny_bind (wpAny_pure ?_)
    show wpAny (model X.prog X.w) X.A (do rule "assign.swapped-stores"; let items ← unpackItems (.ref s1.heap.objs.size) 2 none; assignInOrder [fun v => bindName X.env y v, fun v => bindName X.env x v] items.reverse; pure Flow.next) _ _ _
    refine wpAny_bind (wpAny_rule (wpAny_bind (unpackItems_tuple (items := #[u1, u2]) (I.ok.hd hc) (IsTup.new s1.heap _) fun h' hx' => ?_)))
    have I3 := I2.kept (h' := h') (t' := s1.toks) fun b o e => hx' b o (Nat.ne_of_lt (Heap.lt_size e)) e
    show wpAny _ _ (assignInOrder [fun v => bindName X.env y v, fun v => bindName X.env x v] [u2, u1] >>= fun _ => pure Flow.next) _ _ _
    refine wpAny_bind (assignInOrder_cons (wpAny_bindName (store_okD I3 R1 hN hj (.inl hy) rw' hw' (fun s2 I4 R4 t4 => ?_) (.inr hy))))
    refine assignInOrder_cons (wpAny_bindName (store_okD I4 R4 hN hi (.inl hx) rv hv (fun s3 I5 R5 t5 => assignInOrder_nil (wpAny_pure ?_)) (.inr hx)))
    exact ⟨_, H1, _, _, I5, R5, (t1.trans t4).trans t5, q1⟩
  · exact q1.elim
theorem vals3 {x y z : V} {us : List Value} (r : Vals [x, y, z] us) : ∃ u v w, us = [u, v, w] ∧ RelV x u ∧ RelV y v ∧ RelV z w := by
  cases r with
  | cons p q =>
    obtain ⟨v, w, rfl, h1, h2⟩ := vals2 q
    exact ⟨_, v, w, rfl, p, h1, h2⟩
theorem three_vals {K : PySem.W.Frag} {d e f : D} {vs : List V} (h : Dats K G H [d, e, f] vs) : ∃ v w u, vs = [v, w, u] ∧ Dat K G H d v ∧ Dat K G H e w ∧ Dat K G H f u := by
  obtain ⟨v, r, rfl, hv, hr⟩ := h.cases1
  obtain ⟨w, r', rfl, hw, hr'⟩ := hr.cases1
  obtain ⟨u, r'', rfl, hu, hr''⟩ := hr'.cases1
  cases (show r'' = [] from hr'')
  exact ⟨v, w, u, rfl, hv, hw, hu⟩
theorem ds_par3 {px py pz pt : Pos} {kt k2 : Nat} {pt2 : Pos} (hc : X.calm = true) (hN : X.N.Nodup) (hi : X.N[i]? = some x) (hj : X.N[j]? = some y) (hl : X.N[l]? = some z)
    (hx : X.env.scope.names.lookup x = some .local) (hy : X.env.scope.names.lookup y = some .local) (hz : X.env.scope.names.lookup z = some .local) (ha : DA G X S0 [a, b, c] t)
    (hw : swappedStores [.Tuple [.Name x px, .Name y py, .Name z pz] kt pt] (.Tuple [a, b, c] k2 pt2) X.env = pure (some [x, y, z]))
    (hs : swapsWithSole [.Tuple [.Name x px, .Name y py, .Name z pz] kt pt] (.Tuple [a, b, c] k2 pt2) pos.line X.env = pure false) :
    DSt G X S0 (.Assign [.Tuple [.Name x px, .Name y py, .Name z pz] kt pt] (.Tuple [a, b, c] k2 pt2) pos) (fun D ρ S => t ρ S fun ds S1 => par3 i j l (capN G x) (capN G y) (capN G z) D ρ ds S1) := by
  refine ⟨fun pins s σ H ρ S D I R h => ?_⟩
  rw [exec_Assign_arm]
  refine wpAny_bind (wpAny_standAt ?_)
  rw [hs]
  refine wpAny_bind (wpAny_pure ?_)
  rw [if_neg (by decide)]
  refine wpAny_bind (Tuple_ (thn (ha.run _ pins s σ H ρ S _ I R h) fun us s1 ⟨vs, H1, ds, S1, I1, r1, h1, R1, t1, q1⟩ => ?_))
  replace q1 : par3 i j l (capN G x) (capN G y) (capN G z) D ρ ds S1 := q1
  unfold par3 at q1
  split at q1
  · rename_i d f g
    obtain ⟨v, w, u, rfl, hv, hw', hu⟩ := three_vals h1
    obtain ⟨u1, u2, u3, rfl, rv, rw', ru⟩ := vals3 r1
    refine wpAny_newObj_type ?_ (by show 3 ≤ sizeLine; decide)
    have I2 : Inv X pins σ H1 { s1 with heap := s1.heap.push { cls := .type "tuple", data := .seq [u1, u2, u3].toArray } } := I1.kept (t' := s1.toks) fun b o e => Heap.get?_push_of_some _ e
    rw [hw]
    refine wpAny_bind (wpAny_pure ?_)
    show wpAny (model X.prog X.w) X.A (do rule "assign.swapped-stores"; let items ← unpackItems (.ref s1.heap.objs.size) 3 none; assignInOrder [fun v => bindName X.env z v, fun v => bindName X.env y v, fun v => bindName X.env x v] items.reverse; pure Flow.next) _ _ _
    refine wpAny_bind (wpAny_rule (wpAny_bind (unpackItems_tuple (items := #[u1, u2, u3]) (I.ok.hd hc) (IsTup.new s1.heap _) fun h' hx' => ?_)))
    have I3 := I2.kept (h' := h') (t' := s1.toks) fun b o e => hx' b o (Nat.ne_of_lt (Heap.lt_size e)) e
    show wpAny _ _ (assignInOrder [fun v => bindName X.env z v, fun v => bindName X.env y v, fun v => bindName X.env x v] [u3, u2, u1] >>= fun _ => pure Flow.next) _ _ _
    refine wpAny_bind (assignInOrder_cons (wpAny_bindName (store_okD I3 R1 hN hl (.inl hz) ru hu (fun s2 I4 R4 t4 => ?_) (.inr hz))))
    refine assignInOrder_cons (wpAny_bindName (store_okD I4 R4 hN hj (.inl hy) rw' hw' (fun s3 I5 R5 t5 => ?_) (.inr hy)))
    refine assignInOrder_cons (wpAny_bindName (store_okD I5 R5 hN hi (.inl hx) rv hv (fun s4 I6 R6 t6 => assignInOrder_nil (wpAny_pure ?_)) (.inr hx)))
    exact ⟨_, H1, _, _, I6, R6, ((t1.trans t4).trans t5).trans t6, q1⟩
  · exact q1.elim

/-! ### x op= e, ints -/
def augS (op : Operator) (x y : D) (S : DS) (Q : QE) : Prop := match op, x, y with
  | .Add, .int i, .int j => Q (.int (i + j)) S
  | .Sub, .int i, .int j => Q (.int (i - j)) S
  | _, _, _ => False
theorem ds_aug {op : Operator} {pos' : Pos} (hN : X.N.Nodup) (hi : X.N[i]? = some x) (hx : Loc X.env.scope x) (he : DE G X S0 e te) (hf : X.fn x = true ∨ X.env.scope.names.lookup x = some .local) :
    DSt G X S0 (.AugAssign (.Name x pos') op e pos) (fun D ρ S => bindO (getV ρ i) fun d => te ρ S fun f S1 => augS op d f S1 fun g S2 => D.nx (ρ.set i (some g)) (S2.upto (capN G x))) := by
  refine ⟨fun pins s σ H ρ S D I R h => ?_⟩
  obtain ⟨d, hd, h⟩ := bindO_some h
  have gv : ρ[i]? = some (some d) := by
    unfold getV at hd
    split at hd
    · rename_i q; cases hd; exact q
    · cases hd
  obtain ⟨v, e1, hv⟩ := R.env i d gv
  obtain ⟨m, hn, hl⟩ := I.loc
  have vis : Vis X.env.scope x := by rcases hx with k | k; exact .inl k; exact .inr (.inl k)
  obtain ⟨u, r, l⟩ := hl i x v hi e1 vis
  refine wpAny_AugAssign_Name ?_
  have go : wpAny (model X.prog X.w) X.A (eval e X.env) (fun w s₂ => wpAny (model X.prog X.w) X.A (inplaceOp op u w) (fun r s₃ => wpAny (model X.prog X.w) X.A (storeName X.env x r) (fun _ => SPD G X S0 pins H S D .next) X.xe s₃) X.xe s₂) X.xe s := by
    refine thn (he.run pins s σ H ρ S _ I R h) fun w s1 ⟨yv, H1, f, S1, I1, r1, h1, R1, t1, q1⟩ => ?_
    replace q1 : augS op d f S1 fun g S2 => D.nx (ρ.set i (some g)) (S2.upto (capN G x)) := q1
    unfold augS at q1
    split at q1
    · rename_i k n _ _
      cases (show v = .int k from hv)
      cases (show yv = .int n from h1)
      obtain ⟨t, rfl⟩ := r
      obtain ⟨t', rfl⟩ := r1
      exact iadd_int (store_okD (I1.tok _) R1 hN hi hx (v := .int (k + n)) (d := .int (k + n)) ⟨_, rfl⟩ rfl (fun s3 I3 R3 t3 => ⟨_, H1, _, _, I3, R3, t1.trans t3, q1⟩) hf)
    · rename_i k n _ _
      cases (show v = .int k from hv)
      cases (show yv = .int n from h1)
      obtain ⟨t, rfl⟩ := r
      obtain ⟨t', rfl⟩ := r1
      exact isub_int (store_okD (I1.tok _) R1 hN hi hx (v := .int (k - n)) (d := .int (k - n)) ⟨_, rfl⟩ rfl (fun s3 I3 R3 t3 => ⟨_, H1, _, _, I3, R3, t1.trans t3, q1⟩) hf)
    · exact q1.elim
  rcases l with ⟨hk, hm⟩ | ⟨hk, c, hc, hcell⟩
  · exact wpAny_loadName_local I.ok.kind hk hn hm go
  · rcases hk with hk | hk
    · exact wpAny_loadName_cell I.ok.kind hk hc hcell go
    · rcases hx with k | k
      · have : X.env.scope.names.lookup x = some .free := hk
        rw [k] at this; cases this
      · have : X.env.scope.names.lookup x = some .free := hk
        rw [k] at this; cases this

/-! ### list(range(..)), tuple(range(..)) -/
def rgOf : List D → Option (Int × Int)
  | [.int j] => some (0, j)
  | [.int i, .int j] => some (i, j)
  | _ => none
theorem rgV_rngD {K : PySem.W.Frag} (a b : Int) : Dats K G H (rngD a 1 (b - a).toNat) (rgV a b) := by
  unfold rngD rgV
  generalize (b - a).toNat = n
  have : ∀ l : List Nat, Dats K G H (l.map fun i : Nat => D.int (a + (i : Nat) * 1)) (l.map fun i : Nat => V.int (a + (i : Nat))) := by
    intro l
    induction l with
    | nil => rfl
    | cons i l ih => exact Dats.cons (by show V.int (a + (i : Int)) = V.int (a + (i : Int) * 1); rw [Int.mul_one]) ih
  exact this _
def lrgS (isT : Bool) (ds : List D) (S : DS) (Q : QE) : Prop := bindO (rgOf ds) fun ab => RgOk ab.1 ab.2 ∧ (if isT = true then Q (.tup (rngD ab.1 1 (ab.2 - ab.1).toNat)) S else ∀ p, S.mem p = none → Q (.ref p) (S.put p (.lst (rngD ab.1 1 (ab.2 - ab.1).toNat))))
theorem range_made {Qv : Value → Shared → Prop} {f pos2 : Pos} (hg : Gl X "range") (hm : X.mg "range" = none) (ha : DA G X S0 (e :: es) t) (hs : (e :: es).all (fun e => !isStar e) = true) (I : Inv X pins σ H s) (R : Rep G X S0 σ H ρ S) {K : List D → DS → Prop} (h : t ρ S fun ds S1 => (rgOf ds).isSome = true ∧ K ds S1)
    (hq : ∀ ds S1 H1 s1 r a b tt u v, rgOf ds = some (a, b) → IsRange s1.heap r a b 1 tt u v → Inv X pins σ H1 s1 → Rep G X S0 σ H1 ρ S1 → Step H S H1 S1 → K ds S1 → Qv (.ref r) s1) :
    wpAny (model X.prog X.w) X.A (eval (.Call (.Name "range" f) (e :: es) [] pos2) X.env) Qv X.xe s := by
  simp only [List.all_cons, Bool.and_eq_true, Bool.not_eq_true'] at hs
  refine Call_ (ld_blt I hg hm boot_range (PyProof.Rows.callWith_type1 (thn (ha.run pos2 pins s σ H ρ S _ I R h) fun us s1 ⟨vs, H1, ds, S1, I1, r1, h1, R1, t1, q0, q1⟩ => ?_) (star_cons hs.1) (star_none hs.2 pos2)))
  unfold rgOf at q0
  split at q0
  · rename_i n
    obtain ⟨v, rfl, hv⟩ := one_val h1
    cases (show v = .int n from hv)
    obtain ⟨u, rfl, tk, rfl⟩ := vals1 r1
    exact call_range_1 (hq _ S1 H1 _ _ 0 n _ _ _ rfl (IsRange.new _ _ _ _ _ _ _) (I1.kept fun b u e => Heap.get?_push_of_some _ e) R1 t1 q1)
  · rename_i n m
    obtain ⟨v, w, rfl, hv, hw⟩ := two_vals h1
    cases (show v = .int n from hv)
    cases (show w = .int m from hw)
    obtain ⟨u, u', rfl, ⟨tk, rfl⟩, ⟨tk', rfl⟩⟩ := vals2 r1
    exact call_range_2 (hq _ S1 H1 _ _ n m _ _ _ rfl (IsRange.new _ _ _ _ _ _ _) (I1.kept fun b u e => Heap.get?_push_of_some _ e) R1 t1 q1)
  · cases q0
theorem de_lrange {f p2 pos2 : Pos} (hc : X.calm = true) (hgl : Gl X "list") (hml : X.mg "list" = none) (hg : Gl X "range") (hm : X.mg "range" = none) (ha : DA G X S0 (e :: es) t) (hs : (e :: es).all (fun e => !isStar e) = true) :
    DE G X S0 (.Call (.Name "list" p) [.Call (.Name "range" f) (e :: es) [] pos2] [] pos) (fun ρ S Q => t ρ S fun ds S1 => (rgOf ds).isSome = true ∧ lrgS false ds S1 Q) := by
  refine ⟨fun pins s σ H ρ S Q I R h => ?_⟩
  refine Call_ (ld_blt I hgl hml boot_list (PyProof.Rows.callWith_type1 (args_cons (range_made hg hm ha hs I R h fun ds S1 H1 s1 r a b tt u v e0 hr I1 R1 t1 q => args_nil ?_) rfl) rfl))
  unfold lrgS at q
  rw [e0] at q
  obtain ⟨⟨b1, b2, b3, b4, b5⟩, q⟩ := q
  rw [if_neg (by decide)] at q
  refine call_list_range (n := (b - a).toNat) (I1.ok.hd hc) hr (small_one b1 b2 b3 b4) (rangeSize_nat a b) b5 fun h' tk acc c' hk e' hi => ?_
  have hn := I1.hok.fresh (Nat.le_refl s1.heap.objs.size)
  obtain ⟨d', S', h1', h2', h3', h4'⟩ := HQ.lst (Q := Q) R1 hn (rgV_rngD (G := G) (H := H1) (K := X.K) a b) q
  refine ⟨.ref s1.heap.objs.size, upd H1 s1.heap.objs.size (.lst (rgV a b)), d', S', I1.laid hk (Nat.le_refl _) (show ObjOk X.prog X.w _ _ _ (.lst (rgV a b)) from ⟨?_, acc.toList, c', vals_rg hi, ?_⟩), rfl, h1', h2', t1.trans h3', h4'⟩
  · rw [rgV_length, sizeLine_eq]; omega
  · rw [Array.toArray_toList]; exact e'
theorem de_trange {f p2 pos2 : Pos} (hc : X.calm = true) (hgl : Gl X "tuple") (hml : X.mg "tuple" = none) (hg : Gl X "range") (hm : X.mg "range" = none) (ha : DA G X S0 (e :: es) t) (hs : (e :: es).all (fun e => !isStar e) = true) :
    DE G X S0 (.Call (.Name "tuple" p) [.Call (.Name "range" f) (e :: es) [] pos2] [] pos) (fun ρ S Q => t ρ S fun ds S1 => (rgOf ds).isSome = true ∧ lrgS true ds S1 Q) := by
  refine ⟨fun pins s σ H ρ S Q I R h => ?_⟩
  refine Call_ (ld_blt I hgl hml boot_tuple (PyProof.Rows.callWith_type1 (args_cons (range_made hg hm ha hs I R h fun ds S1 H1 s1 r a b tt u v e0 hr I1 R1 t1 q => args_nil ?_) rfl) rfl))
  unfold lrgS at q
  rw [e0] at q
  obtain ⟨⟨b1, b2, b3, b4, b5⟩, q⟩ := q
  rw [if_pos rfl] at q
  refine call_tuple_range (n := (b - a).toNat) (I1.ok.hd hc) hr (small_one b1 b2 b3 b4) (rangeSize_nat a b) b5 fun h' tk acc hk hi => ?_
  have I2 : Inv X pins σ H1 { s1 with heap := h', toks := tk } := I1.kept hk
  have hn := I2.hok.fresh (Nat.le_refl h'.objs.size)
  obtain ⟨d', S', h1', h2', h3', h4'⟩ := HQ.tup (Q := Q) R1 hn (rgV_rngD (G := G) (H := H1) (K := X.K) a b) q
  refine ⟨.ref h'.objs.size, upd H1 h'.objs.size (.tup (rgV a b)), d', S', I2.laid (t' := tk) (fun c o e => Heap.get?_push_of_some _ e) (Nat.le_refl _) (show ObjOk X.prog X.w _ _ _ (.tup (rgV a b)) from ⟨?_, acc.toList, vals_rg hi, ?_⟩), rfl, h1', h2', t1.trans h3', h4'⟩
  · rw [rgV_length, sizeLine_eq]; omega
  · rw [Array.toArray_toList]; exact IsTup.new _ _

/-! ### dict displays -/
structure DPs (G : GS) (X : Cx) (S0 : DS) (pos : Pos) (keys : List (Option Expr)) (values : List Expr) (t : DTA) : Prop where
  run : ∀ (pins : List (Addr × Obj)) (s : Shared) (σ : L2.St) (H : Hp) (ρ : Rho) (S : DS) (Q : List D → DS → Prop), Inv X pins σ H s → Rep G X S0 σ H ρ S → t ρ S Q →
    wpAny (model X.prog X.w) X.A (evalPairs (pairTrees keys values X.env pos)) (fun vs s' => ∃ (ps : List (V × V)) (H' : Hp) (ds : List D) (S' : DS), Inv X pins σ H' s' ∧ VV ps vs ∧ Dats X.K G H' ds (ps.flatMap fun p => [p.1, p.2]) ∧ Rep G X S0 σ H' ρ S' ∧ Step H S H' S' ∧ Q ds S') X.xe s
theorem dps_nil : DPs G X S0 pos [] [] (fun _ S Q => Q [] S) := ⟨fun pins s σ H ρ S Q I R h => pairTrees_nil_walk ⟨[], H, [], S, I, .nil, rfl, R, Step.refl _ _, h⟩⟩
theorem dps_cons {k v : Expr} {ks : List (Option Expr)} {vs : List Expr} {tk tv : DT} (hk : DE G X S0 k tk) (hv : DE G X S0 v tv) (hr : DPs G X S0 pos ks vs t) :
    DPs G X S0 pos (some k :: ks) (v :: vs) (fun ρ S Q => tk ρ S fun d S1 => tv ρ S1 fun f S2 => t ρ S2 fun ds S3 => Q (d :: f :: ds) S3) := ⟨fun pins s σ H ρ S Q I R h =>
  pairTrees_cons_walk (thn (hk.run pins s σ H ρ S _ I R h) fun u s1 ⟨x, H1, d1, S1, I1, r1, h1, R1, t1, q1⟩ => thn (hv.run pins s1 σ H1 ρ S1 _ I1 R1 q1) fun w2 s2 ⟨y, H2, d2, S2, I2, r2, h2, R2, t2, q2⟩ =>
    thn (hr.run pins s2 σ H2 ρ S2 _ I2 R2 q2) fun ws s3 ⟨ps, H3, ds, S3, I3, rel, h3, R3, t3, q3⟩ => ⟨(x, y) :: ps, H3, d1 :: d2 :: ds, S3, I3, .cons ⟨r1, r2⟩ rel, Dats.cons (Dat.mono (t2.trans t3).k _ _ h1) (Dats.cons (Dat.mono t3.k _ _ h2) h3), R3, (t1.trans t2).trans t3, q3⟩)⟩
/-- pairs with keys ints and texts -/
def kvOf : List D → Option (List (Key × D))
  | [] => some []
  | .int i :: d :: r => (kvOf r).map ((.inl i, d) :: ·)
  | .str x :: d :: r => (kvOf r).map ((.inr x, d) :: ·)
  | _ => none
def putD (kvs : List (Key × D)) (k : Key) (d : D) : List (Key × D) :=
  if (kvs.any fun kv => decide (kv.1 = k)) = true then kvs.map (fun kv => if kv.1 = k then (kv.1, d) else kv) else kvs ++ [(k, d)]
def mergeD (kvs more : List (Key × D)) : List (Key × D) := more.foldl (fun acc kv => putD acc kv.1 kv.2) kvs
/-- keys alike, values told -/
structure KVD (K : PySem.W.Frag) (G : GS) (H : Hp) (kvs : List (Key × D)) (kws : List (Key × V)) : Prop where
  keys : kws.map (·.1) = kvs.map (·.1)
  vals : Dats K G H (kvs.map (·.2)) (kws.map (·.2))
theorem KVD.mono {K : PySem.W.Frag} {kvs : List (Key × D)} {kws : List (Key × V)} (k : Kept H H') (h : KVD K G H kvs kws) : KVD K G H' kvs kws := ⟨h.keys, Dats.mono k _ _ h.vals⟩
theorem KVD.mapPut {K : PySem.W.Frag} {d : D} {v : V} (hd : Dat K G H d v) (k : Key) : ∀ {kvs : List (Key × D)} {kws : List (Key × V)}, KVD K G H kvs kws → KVD K G H (kvs.map (fun kv => if kv.1 = k then (kv.1, d) else kv)) (kws.map (fun kv => if kv.1 = k then (kv.1, v) else kv)) := by
  intro kvs
  induction kvs with
  | nil =>
    intro kws h
    have : kws = [] := by simpa using h.keys
    subst this
    exact ⟨rfl, rfl⟩
  | cons q kvs ih =>
    intro kws h
    obtain ⟨h1, h2⟩ := h
    cases kws with
    | nil => simp at h1
    | cons q0 kws =>
      simp only [List.map_cons, List.cons.injEq] at h1
      obtain ⟨x, r, er, hx, hr⟩ := h2.cases1
      simp only [List.map_cons, List.cons.injEq] at er
      obtain ⟨rfl, rfl⟩ := er
      have g := ih (kws := kws) ⟨h1.2, hr⟩
      have gk := g.keys
      refine ⟨?_, ?_⟩
      · rw [List.map_cons, List.map_cons, List.map_cons, List.map_cons, gk, h1.1]
        congr 1
        by_cases e : q.1 = k
        · rw [if_pos e, if_pos e]
        · rw [if_neg e, if_neg e]; exact h1.1
      · rw [List.map_cons, List.map_cons, List.map_cons, List.map_cons]
        refine Dats.cons ?_ g.vals
        rw [h1.1]
        by_cases e : q.1 = k
        · rw [if_pos e, if_pos e]; exact hd
        · rw [if_neg e, if_neg e]; exact hx
theorem KVD.put {K : PySem.W.Frag} {d : D} {v : V} (hd : Dat K G H d v) (k : Key) {kvs : List (Key × D)} {kws : List (Key × V)} (h : KVD K G H kvs kws) : KVD K G H (putD kvs k d) (putK kws k v) := by
  have hany : (kws.any fun kv => decide (kv.1 = k)) = (kvs.any fun kv => decide (kv.1 = k)) := by
    have e1 : (kws.any fun kv => decide (kv.1 = k)) = (kws.map (·.1)).any (fun x => decide (x = k)) := by rw [List.any_map]; rfl
    have e2 : (kvs.any fun kv => decide (kv.1 = k)) = (kvs.map (·.1)).any (fun x => decide (x = k)) := by rw [List.any_map]; rfl
    rw [e1, e2, h.keys]
  unfold putD putK
  rw [hany]
  split
  · exact KVD.mapPut hd k h
  · refine ⟨by rw [List.map_append, List.map_append, h.keys]; rfl, ?_⟩
    rw [List.map_append, List.map_append]
    exact h.vals.append (Dats.one hd)
theorem KVD.merge {K : PySem.W.Frag} : ∀ {more : List (Key × D)} {mws : List (Key × V)} {kvs : List (Key × D)} {kws : List (Key × V)}, KVD K G H more mws → KVD K G H kvs kws → KVD K G H (mergeD kvs more) (mergeK kws mws)
  | [], mws, kvs, kws, h, g => by
    have : mws = [] := by simpa using h.keys
    subst this
    exact g
  | q :: more, [], kvs, kws, h, g => by have := h.keys; simp at this
  | q :: more, q0 :: mws, kvs, kws, h, g => by
    obtain ⟨h1, h2⟩ := h
    simp only [List.map_cons, List.cons.injEq] at h1
    obtain ⟨x, r, er, hx, hr⟩ := h2.cases1
    simp only [List.map_cons, List.cons.injEq] at er
    obtain ⟨rfl, rfl⟩ := er
    show KVD K G H (mergeD (putD kvs q.1 q.2) more) (mergeK (putK kws q0.1 q0.2) mws)
    rw [h1.1]
    exact KVD.merge ⟨h1.2, hr⟩ (KVD.put hx q.1 g)
theorem kv_split {K : PySem.W.Frag} : ∀ {ds : List D} {ps : List (V × V)} {kvs : List (Key × D)}, Dats K G H ds (ps.flatMap fun p => [p.1, p.2]) → kvOf ds = some kvs → ∃ kws : List (Key × V), ps = kws.map (fun kv => (kV kv.1, kv.2)) ∧ KVD K G H kvs kws := by
  intro ds
  fun_induction kvOf ds with
  | case1 =>
    intro ps kvs h e
    cases e
    cases ps with
    | nil => exact ⟨[], rfl, rfl, rfl⟩
    | cons p ps => cases (show (p :: ps).flatMap (fun p => [p.1, p.2]) = [] from h)
  | case2 i d r ih =>
    intro ps kvs h e
    cases q : kvOf r with
    | none => rw [q] at e; cases e
    | some kvs' =>
      rw [q] at e; cases e
      obtain ⟨v, w, e1, h1, h2⟩ := h.cases1
      obtain ⟨v', w', rfl, h3, h4⟩ := h2.cases1
      cases ps with
      | nil => cases e1
      | cons p ps =>
        have e1 : p.1 :: p.2 :: ps.flatMap (fun p => [p.1, p.2]) = v :: v' :: w' := e1
        simp only [List.cons.injEq] at e1
        obtain ⟨rfl, rfl, rfl⟩ := e1
        obtain ⟨kws, rfl, hk⟩ := ih h4 q
        refine ⟨(.inl i, p.2) :: kws, ?_, by simp [hk.keys], Dats.cons h3 hk.vals⟩
        simp only [List.map_cons, List.cons.injEq, and_true]
        exact Prod.ext (show p.1 = .int i from h1) rfl
  | case3 x d r ih =>
    intro ps kvs h e
    cases q : kvOf r with
    | none => rw [q] at e; cases e
    | some kvs' =>
      rw [q] at e; cases e
      obtain ⟨v, w, e1, h1, h2⟩ := h.cases1
      obtain ⟨v', w', rfl, h3, h4⟩ := h2.cases1
      cases ps with
      | nil => cases e1
      | cons p ps =>
        have e1 : p.1 :: p.2 :: ps.flatMap (fun p => [p.1, p.2]) = v :: v' :: w' := e1
        simp only [List.cons.injEq] at e1
        obtain ⟨rfl, rfl, rfl⟩ := e1
        obtain ⟨kws, rfl, hk⟩ := ih h4 q
        refine ⟨(.inr x, p.2) :: kws, ?_, by simp [hk.keys], Dats.cons h3 hk.vals⟩
        simp only [List.map_cons, List.cons.injEq, and_true]
        exact Prod.ext (show p.1 = .str x from h1) rfl
  | case4 => intro ps kvs h e; cases e
def dispS (ds : List D) (S : DS) (Q : QE) : Prop := bindO (kvOf ds) fun kvs => kvs.length ≤ 15 ∧ ∀ p, S.mem p = none → Q (.ref p) (S.put p (.dk (mergeD [] kvs)))
theorem Rep.tellW {p : Addr} {ho : HO} {m : MO} (R0 : Rep G X S0 σ H ρ S) (R : Rep G X S0 σ H' ρ S') (st : Step H S H' S') (hD : H p = none) (hS : S'.mem p = none) (h1 : Imm ho = false) (h1' : H' p = some ho) (ht : isTbl ho = false) {ho' : HO} (hm : MOk X.K G (upd H' p ho') p m) :
    Rep G X S0 σ (upd H' p ho') ρ (S'.put p m) ∧ Step H S (upd H' p ho') (S'.put p m) := by
  have ne : ∀ b o, H' b = some o → Imm o = true → b ≠ p := fun b o e i z => by subst z; rw [h1'] at e; cases e; rw [h1] at i; cases i
  have k : Kept H' (upd H' p ho') := fun b o i e => by rw [upd_ne (ne b o e i)]; exact e
  have kt : ∀ b ps, H' b = some (.tbl ps) → upd H' p ho' b = some (.tbl ps) := fun b ps e => by
    have z : b ≠ p := fun z => by subst z; rw [h1'] at e; cases e; cases ht
    rw [upd_ne z]; exact e
  have st' : Step H S (upd H' p ho') (S'.put p m) := by
    refine ⟨fun a o e c t => ?_, fun a h => ?_, fun a ps e => ?_⟩
    · have ea : a ≠ p := fun z => by subst z; rw [hD] at e; cases e
      rw [upd_ne ea]; exact st.kept a o e c t
    · by_cases ea : a = p
      · subst ea; exact .inr hD
      · rw [DS.put_ne ea] at h; exact st.dom a h
    · obtain ⟨ps', e'⟩ := st.tbl a ps e
      exact ⟨ps', kt a ps' e'⟩
  refine ⟨⟨R.len, fun i d e => ?_, fun b o e => ?_, fun f j sn e => (R.lam f j sn e).mono k, tabs_keep k kt R.tab, R0.st.trans st'⟩, st'⟩
  · obtain ⟨v, e1, e2⟩ := R.env i d e
    exact ⟨v, e1, Dat.mono k _ _ e2⟩
  · by_cases eb : b = p
    · subst eb; rw [DS.put_same] at e; cases e; exact hm
    · rw [DS.put_ne eb] at e
      exact (R.mem b o e).mono k fun u q => by rw [upd_ne eb]; exact q
theorem Rep.free (R : Rep G X S0 σ H ρ S) {p : Addr} (h : H p = none) : S.mem p = none := by
  cases e : S.mem p with
  | none => rfl
  | some o =>
    have z := R.mem p o e
    cases o with
    | lst ds => obtain ⟨vs, e1, _⟩ := z; rw [h] at e1; cases e1
    | ro ds => obtain ⟨vs, ⟨ob, e1⟩, _⟩ := z; rw [h] at e1; cases e1
    | dk kvs => obtain ⟨kws, e1, _⟩ := z; rw [h] at e1; cases e1
theorem de_dict0 : DE G X S0 (.Dict [] [] pos) (fun _ S Q => ∀ p, S.mem p = none → Q (.ref p) (S.put p (.dk []))) := by
  refine ⟨fun pins s σ H ρ S Q I R h => ?_⟩
  have hn := I.hok.fresh (Nat.le_refl s.heap.objs.size)
  have I1 := I.laid (a := s.heap.objs.size) (o := .dK []) (h' := s.heap.push { cls := .type "dict", data := .dict #[] }) (t' := s.toks) (fun _ _ q => Heap.get?_push_of_some _ q) (Nat.le_refl _) (dk_empty s.heap I.big)
  obtain ⟨R1, t1⟩ := R.newM (m := .dk []) hn (ho := .dK []) ⟨[], upd_same, rfl, rfl⟩
  exact wpAny_Dict_empty ⟨.ref s.heap.objs.size, _, .ref s.heap.objs.size, _, I1, rfl, rfl, R1, t1, h _ (R.free hn)⟩
theorem de_disp {keys : List (Option Expr)} {values : List Expr} (h : DPs G X S0 pos keys values t) (hall : keys.all (·.isSome) = true) (hl : keys.length = values.length) (h0 : keys ≠ []) (h15 : keys.length ≤ 15) : DE G X S0 (.Dict keys values pos) (fun ρ S Q => t ρ S fun ds S1 => dispS ds S1 Q) := by
  refine ⟨fun pins s σ H ρ S Q I R q => ?_⟩
  have hn := I.hok.fresh (Nat.le_refl s.heap.objs.size)
  have I1 := I.laid (a := s.heap.objs.size) (o := .dK []) (h' := s.heap.push { cls := .type "dict", data := .dict #[] }) (t' := s.toks) (fun _ _ q => Heap.get?_push_of_some _ q) (Nat.le_refl _) (dk_empty s.heap I.big)
  have k1 : ∀ a o, H a = some o → upd H s.heap.objs.size (.dK []) a = some o := upd_grow hn
  obtain ⟨R1, t1⟩ := R.grow k1
  refine wpAny_Dict_walk (knd := mixKind X.prog X.w) hall hl h0 h15 (thn (h.run pins _ σ _ ρ S _ I1 R1 q) fun ws s2 ⟨ps, H2, ds, S2, I2, rel, hd, R2, t2, q2⟩ => ?_)
  replace q2 : dispS ds S2 Q := q2
  obtain ⟨kvs, e, h15', q3⟩ := bindO_some q2
  obtain ⟨kws, rfl, hk⟩ := kv_split hd e
  have hSn : S.mem s.heap.objs.size = none := R.free hn
  have e2 : H2 s.heap.objs.size = some (.dK []) := t2.kept _ _ upd_same (.inl hSn) rfl
  have hS2 : S2.mem s.heap.objs.size = none := by
    cases z : S2.mem s.heap.objs.size with
    | none => rfl
    | some o =>
      rcases t2.dom _ (by rw [z]; simp) with y | y
      · exact absurd hSn y
      · rw [upd_same] at y; cases y
  obtain ⟨rs, c, rk⟩ := carries_of (P := X.prog) (w := X.w) rel
  obtain ⟨z, hds, vs0, r0, dd⟩ := dk_of I2.hok e2
  cases r0
  refine ⟨rs, c, dd, fun h' dd' hs => ?_⟩
  have hlk : kws.length = kvs.length := by
    have := congrArg List.length hk.keys
    simpa using this
  have hz : (mergeK [] kws).length ≤ sizeLine := by
    have h1 := length_mergeK kws []
    rw [List.length_nil] at h1
    rw [sizeLine_eq]; omega
  have he : ∃ q, h'.get? s.heap.objs.size = some q := let ⟨q, _, _, hq, _⟩ := dd'; ⟨q, hq⟩
  have I3 := d_write (t' := s2.toks + ws.length) I2 (by rw [e2]; exact True.intro) hs he (dk_new (H' := upd H2 s.heap.objs.size (.dK (mergeK [] kws))) hz hds (rk.merge .nil) dd')
  have kk : Kept H2 (upd H2 s.heap.objs.size (.dK (mergeK [] kws))) := fun b o im e => by
    rw [upd_ne (fun z => by subst z; rw [e2] at e; cases e; cases im)]; exact e
  have hm : MOk X.K G (upd H2 s.heap.objs.size (.dK (mergeK [] kws))) s.heap.objs.size (.dk (mergeD [] kvs)) := by
    have := KVD.merge (KVD.mono kk hk) (kvs := []) (kws := []) ⟨rfl, rfl⟩
    exact ⟨_, upd_same, this.keys, this.vals⟩
  obtain ⟨R3, t3⟩ := R.tellW R2 (t1.trans t2) hn hS2 rfl e2 rfl hm
  exact ⟨.ref s.heap.objs.size, _, .ref s.heap.objs.size, _, I3, rfl, rfl, R3, t3, q3 _ hS2⟩
end
end DL

namespace DL
open PySem PySem.Spec PyProof.Rows L2
/-! displays with stars -/
/-- *x: what is walked at once -/
def starS (x : D) (S : DS) (k : List D → Prop) : Prop := match x with
  | .tup ds => k ds
  | .ref a => bindO (lstAt S a) k
  | _ => False
theorem starS_cases {x : D} {S : DS} {k : List D → Prop} (h : starS x S k) : (∃ ds, x = .tup ds ∧ k ds) ∨ ∃ a ds, x = .ref a ∧ lstAt S a = some ds ∧ k ds := by
  unfold starS at h
  split at h
  · exact .inl ⟨_, rfl, h⟩
  · obtain ⟨ds, e, q⟩ := bindO_some h
    exact .inr ⟨_, ds, rfl, e, q⟩
  · exact h.elim
theorem Dats.appD {K : PySem.W.Frag} {G : GS} {H : Hp} : ∀ {ds es : List D} {vs us : List V}, Dats K G H ds vs → Dats K G H es us → Dats K G H (ds ++ es) (vs ++ us)
  | [], es, vs, us, h, g => by
    have : vs = [] := h
    subst this; exact g
  | d :: ds, es, vs, us, h, g => by
    obtain ⟨v, r, rfl, h1, h2⟩ := h
    exact Dats.cons h1 (Dats.appD h2 g)
section
variable {G : GS} {X : Cx} {S0 : DS} {e : Expr} {es : List Expr} {te : DT} {t : DTA} {p : Pos}
theorem da_star (he : DE G X S0 e te) (hr : DA G X S0 es t) : DA G X S0 (.Starred e p :: es) (fun ρ S Q => te ρ S fun x S1 => starS x S1 fun xs => t ρ S1 fun ys S2 => Q (xs ++ ys) S2) := by
  refine ⟨fun pos pins s σ H ρ S Q I R h => ?_⟩
  refine PySem.W.items_star (thn (he.run pins s σ H ρ S _ I R h) fun v s1 ⟨y, H1, d1, S1, I1, ry, h1, R1, t1, q⟩ => ?_) rfl
  obtain ⟨ds, a, xs, ey, hx, hd, q⟩ : ∃ (ds : List D) (a : Addr) (xs : List V), y = .ref a ∧ (SqT X.K H1 a xs ∨ SqL X.K H1 a xs) ∧ Dats X.K G H1 ds xs ∧ t ρ S1 fun ys S2 => Q (ds ++ ys) S2 := by
    rcases starS_cases q with ⟨ds, rfl, q⟩ | ⟨a, ds, rfl, e1, q⟩
    · unfold Dat at h1
      obtain ⟨a, vs, rfl, hs, hd⟩ := h1
      exact ⟨ds, a, vs, rfl, .inl hs, hd, q⟩
    · obtain ⟨vs, hs, hd⟩ := lstAt_mem R1.mem e1
      exact ⟨ds, a, vs, h1, .inr hs, hd, q⟩
  subst ey
  obtain rfl : v = Value.ref a := ry
  refine StX.star_any I1 hx fun us s2 I2 rv => ?_
  exact thn (hr.run pos pins s2 σ H1 ρ S1 _ I2 R1 q) fun ws s3 ⟨vs, H3, es', S3, I3, r3, h3, R3, t3, q3⟩ => ⟨xs ++ vs, H3, ds ++ es', S3, I3, rv.append r3, Dats.appD (Dats.mono t3.k _ _ hd) h3, R3, t1.trans t3, q3⟩
end
end DL

namespace DL
open PySem PySem.Spec PyProof.Rows L2

/-! ### the core syntax: what the text says, names by places -/
mutual
inductive CE where
  | var (i : Nat) | glob (j : Nat) | cls (n : Str) | ty (t : String)
  | int (i : Int) | str (x : Str) | bl (b : Bool) | non
  | bin (op : Operator) (a b : CE) | neg (a : CE) | nt (a : CE)
  | cmp (op : CmpOp) (a b : CE) | chain (a : CE) (r : CCh) | bo (op : BoolOp) (es : CEn) | ife (c : CB) (a b : CE)
  | tup (es : CEs) | lst (es : CEs) | dict (es : CEs) | tupS (es : CSt) | lstS (es : CSt)
  | ix (a b : CE) | sl (a : CE) (lo hi : CEo) | rev (a : CE)
  | call (j : Nat) (es ks : CEs) | callB (id : String) (es : CEs) | callT (T : String) (es : CEs) | callV (i : Nat) (es : CEs)
  | met (nm : String) (o : CE) (es : CEs) | lam (j : Nat) (ixs : List Nat) | value (o : CE)
  | rng (isT : Bool) (es : CEs)
  | lc (tg : CT) (it : CI) (ifs : CBo) (elt : CE) (own : List (Str × Nat))
inductive CEs where
  | nil | cons (a : CE) (r : CEs)
inductive CSt where
  | nil | cons (s : Bool) (a : CE) (r : CSt)
inductive CEn where
  | one (a : CE) | more (a : CE) (r : CEn)
inductive CEo where
  | none | some (a : CE)
inductive CCh where
  | last (op : CmpOp) (b : CE) | link (op : CmpOp) (b : CE) (r : CCh)
inductive CB where
  | v (a : CE) | cmp (op : CmpOp) (a b : CE) | chain (a : CE) (r : CCh) | nt (b : CB) | bo (op : BoolOp) (bs : CBs)
inductive CBs where
  | one (a : CB) | more (a : CB) (r : CBs)
inductive CBo where
  | none | some (b : CB)
inductive CI where
  | val (a : CE) | rng (es : CEs)
inductive CT where
  | name (i : Nat) (c : Bool) | tup (ts : CTs) | sub (o i : CE)
inductive CTs where
  | nil | cons (t : CT) (r : CTs)
end
mutual
inductive CS where
  | expr (a : CE) | asg (t : CT) (a : CE) | setLc (i : Nat) (c : Bool) (tg : CT) (it : CI) (ifs : CBo) (elt : CE) (own : List (Str × Nat))
  | par2 (i j : Nat) (ci cj : Bool) (a b : CE) | par3 (i j l : Nat) (ci cj cl : Bool) (a b d : CE) | aug (i : Nat) (c : Bool) (op : Operator) (a : CE)
  | ite (c : CB) (a b : CSs) | for_ (t : CT) (it : CI) (body : CSs) | while_ (c : CB) (body : CSs)
  | ret (a : CE) | retN | raise (x : Str) (a : CE) | pass | brk | cont
  | heard (ic ig ie ik : Nat) (x : Str)
inductive CSs where
  | nil | cons (a : CS) (r : CSs)
end
def CEs.isNil : CEs → Bool
  | .nil => true
  | .cons _ _ => false
def CEs.len : CEs → Nat
  | .nil => 0
  | .cons _ r => r.len + 1

def CTs.len : CTs → Nat
  | .nil => 0
  | .cons _ r => r.len + 1

/-! ### what it asks -/
structure Ga where
  fn : Nat → FC
  gv : Nat → D
  lc : Nat → Option (Nat × FC)
  exn : List Str
def noE : EX := fun _ _ _ => False
def boolOf (k : D) : Option Bool := match k with
  | .bl k => some k
  | _ => none
section
variable (G : GS) (Γ : Ga)
mutual
def wpE : CE → EX → DT
  | .var i, _ => fun ρ S Q => bindO (getV ρ i) fun d => Q d S
  | .glob j, _ => fun _ S Q => Q (Γ.gv j) S
  | .cls n, _ => fun _ S Q => Q (.cls n) S
  | .ty t, _ => fun _ S Q => Q (.ty t) S
  | .int i, _ => fun _ S Q => Q (.int i) S
  | .str x, _ => fun _ S Q => Q (.str x) S
  | .bl b, _ => fun _ S Q => Q (.bl b) S
  | .non, _ => fun _ S Q => Q .non S
  | .bin op a b, E => fun ρ S Q => wpE a E ρ S fun x S1 => wpE b E ρ S1 fun y S2 => binS op x y S2 Q
  | .neg a, E => fun ρ S Q => wpE a E ρ S fun x S1 => negS x S1 Q
  | .nt a, E => fun ρ S Q => wpE a E ρ S fun x S1 => truS x S1 fun k => Q (.bl (!k)) S1
  | .cmp op a b, E => fun ρ S Q => wpE a E ρ S fun x S1 => wpE b E ρ S1 fun y S2 => cmpS op x y S2 fun k => Q (.bl k) S2
  | .chain a r, E => fun ρ S Q => wpE a E ρ S fun x S1 => wpCh r E x ρ S1 Q
  | .bo op es, E => wpEn op es E
  | .ife c a b, E => fun ρ S Q => wpB c E ρ S fun k S1 => if k = true then wpE a E ρ S1 Q else wpE b E ρ S1 Q
  | .tup es, E => fun ρ S Q => wpEs es E ρ S fun xs S1 => xs.length ≤ sizeLine ∧ Q (.tup xs) S1
  | .lst es, E => fun ρ S Q => wpEs es E ρ S fun xs S1 => xs.length ≤ sizeLine ∧ ∀ p, S1.mem p = none → Q (.ref p) (S1.put p (.lst xs))
  | .dict es, E => fun ρ S Q => wpEs es E ρ S fun xs S1 => if es.isNil = true then ∀ p, S1.mem p = none → Q (.ref p) (S1.put p (.dk [])) else dispS xs S1 Q
  | .tupS es, E => fun ρ S Q => wpX es E ρ S fun xs S1 => xs.length ≤ sizeLine ∧ Q (.tup xs) S1
  | .lstS es, E => fun ρ S Q => wpX es E ρ S fun xs S1 => xs.length ≤ sizeLine ∧ ∀ p, S1.mem p = none → Q (.ref p) (S1.put p (.lst xs))
  | .ix a b, E => fun ρ S Q => wpE a E ρ S fun x S1 => wpE b E ρ S1 fun y S2 => ixS x y S2 Q
  | .sl a lo hi, E => fun ρ S Q => wpE a E ρ S fun x S1 => wpO lo E ρ S1 fun l S2 => wpO hi E ρ S2 fun u S3 => slS x l u S3 Q
  | .rev a, E => fun ρ S Q => wpE a E ρ S fun x S1 => revS x S1 Q
  | .call j es ks, E => fun ρ S Q => wpEs es E ρ S fun ds S1 => match ks with
    | .nil => Γ.fn j ds S1 Q E
    | .cons _ _ => wpEs ks E ρ S1 fun ws S2 => match es with
      | .nil => Γ.fn j ws S2 Q E
      | .cons _ _ => ds.length = es.len ∧ Γ.fn j (ds ++ ws) S2 Q E
  | .callB id es, E => fun ρ S Q => wpEs es E ρ S fun ds S1 => bltS G Γ.exn id ds S1 Q
  | .callT T es, E => fun ρ S Q => wpEs es E ρ S fun ds S1 => btyS T ds S1 Q
  | .callV i es, E => fun ρ S Q => bindO (getV ρ i) fun d => ∃ f, d = .ref f ∧ match es with
    | .nil => bindO (S.lam f) fun q => ∃ n C, Γ.lc q.1 = some (n, C) ∧ C q.2 S Q E
    | .cons _ _ => (S.lam f).isSome = true ∧ wpEs es E ρ S fun ds S2 => bindO (S2.lam f) fun q => ∃ n C, Γ.lc q.1 = some (n, C) ∧ C (ds ++ q.2) S2 Q E
  | .met nm o es, E => fun ρ S Q => wpE o E ρ S fun d S1 => bindO (metTy nm d S1) fun ti => wpEs es E ρ S1 fun ds S2 => metS ti.2 d ds S2 Q
  | .lam j ixs, _ => fun ρ S Q => bindO (snap ρ ixs) fun sn => ∀ f, S.mem f = none → S.lam f = none → Q (.ref f) (S.addLam f j sn)
  | .value o, E => fun ρ S Q => wpE o E ρ S fun d S1 => ∃ n d', d = .exc n d' ∧ n ∈ Γ.exn ∧ Q d' S1
  | .rng isT es, E => fun ρ S Q => wpEs es E ρ S fun ds S1 => (rgOf ds).isSome = true ∧ lrgS isT ds S1 Q
  | .lc tg it ifs elt own, E => lcQ (wpI it E) (wpT tg noE) (wpBo ifs noE) (wpE elt noE) (own.map (·.2))
def wpEs : CEs → EX → DTA
  | .nil, _ => fun _ S Q => Q [] S
  | .cons a r, E => fun ρ S Q => wpE a E ρ S fun x S1 => wpEs r E ρ S1 fun xs S2 => Q (x :: xs) S2
def wpX : CSt → EX → DTA
  | .nil, _ => fun _ S Q => Q [] S
  | .cons s a r, E => fun ρ S Q => wpE a E ρ S fun x S1 => if s = true then starS x S1 fun xs => wpX r E ρ S1 fun ys S2 => Q (xs ++ ys) S2 else wpX r E ρ S1 fun xs S2 => Q (x :: xs) S2
def wpEn (op : BoolOp) : CEn → EX → DT
  | .one a, E => wpE a E
  | .more a r, E => fun ρ S Q => wpE a E ρ S fun x S1 => truS x S1 fun k => match op with
    | .And => if k = true then wpEn op r E ρ S1 Q else Q x S1
    | .Or => if k = true then Q x S1 else wpEn op r E ρ S1 Q
def wpO : CEo → EX → DTO
  | .none, _ => fun _ S Q => Q none S
  | .some a, E => fun ρ S Q => wpE a E ρ S fun x S1 => partS x S1 Q
def wpCh : CCh → EX → D → DT
  | .last op b, E => fun x ρ S Q => wpE b E ρ S fun y S2 => cmpS op x y S2 fun k => Q (.bl k) S2
  | .link op b r, E => fun x ρ S Q => wpE b E ρ S fun y S2 => cmpS op x y S2 fun k => if k = true then wpCh r E y ρ S2 Q else Q (.bl false) S2
def wpB : CB → EX → DTT
  | .v a, E => fun ρ S Q => wpE a E ρ S fun d S1 => truS d S1 fun k => Q k S1
  | .cmp op a b, E => fun ρ S Q => wpE a E ρ S fun x S1 => wpE b E ρ S1 fun y S2 => cmpS op x y S2 fun k => Q k S2
  | .chain a r, E => fun ρ S Q => wpE a E ρ S fun x S1 => wpCh r E x ρ S1 fun k S2 => bindO (boolOf k) fun k => Q k S2
  | .nt b, E => fun ρ S Q => wpB b E ρ S fun c S1 => Q (!c) S1
  | .bo op bs, E => wpBs op bs E
def wpBs (op : BoolOp) : CBs → EX → DTT
  | .one a, E => wpB a E
  | .more a r, E => fun ρ S Q => wpB a E ρ S fun c S1 => match op with
    | .And => if c = true then wpBs op r E ρ S1 Q else Q false S1
    | .Or => if c = true then Q true S1 else wpBs op r E ρ S1 Q
def wpBo : CBo → EX → DTT
  | .none, _ => fun _ S Q => Q true S
  | .some b, E => wpB b E
def wpI : CI → EX → DTI
  | .val a, E => fun ρ S R => wpE a E ρ S fun d S1 => walkS d S1 R
  | .rng es, E => fun ρ S R => wpEs es E ρ S fun ds S1 => rngS ds fun l => R l (fun _ => True) S1
def wpT : CT → EX → DTGt
  | .name i c, _ => fun d ρ S Q => Q (ρ.set i (some d)) (S.upto c)
  | .tup ts, E => fun d ρ S Q => match d with
    | .tup ds => ds.length = ts.len ∧ wpTs ts E ds ρ S Q
    | _ => False
  | .sub o i, E => fun d ρ S Q => wpE o E ρ S fun o S1 => wpE i E ρ S1 fun i S2 => setS o i d S2 fun S3 => Q ρ S3
def wpTs : CTs → EX → List D → Rho → DS → (Rho → DS → Prop) → Prop
  | .nil, _ => fun ds ρ S Q => ds = [] ∧ Q ρ S
  | .cons t r, E => fun ds ρ S Q => match ds with
    | d :: ds => wpT t E d ρ S fun ρ1 S1 => wpTs r E ds ρ1 S1 Q
    | [] => False
end
mutual
def wpS : CS → EX → DTS
  | .expr a, E => fun D ρ S => wpE G Γ a E ρ S fun _ S1 => D.nx ρ S1
  | .asg t a, E => fun D ρ S => wpE G Γ a E ρ S fun d S1 => wpT G Γ t E d ρ S1 D.nx
  | .setLc i c tg it ifs elt own, E => fun D ρ S => lcQ (wpI G Γ it E) (wpT G Γ tg noE) (wpBo G Γ ifs noE) (wpE G Γ elt noE) (own.map (·.2)) ρ S fun d S1 => D.nx (ρ.set i (some d)) (S1.upto c)
  | .par2 i j ci cj a b, E => fun D ρ S => wpE G Γ a E ρ S fun x S1 => wpE G Γ b E ρ S1 fun y S2 => D.nx ((ρ.set j (some y)).set i (some x)) ((S2.upto cj).upto ci)
  | .par3 i j l ci cj cl a b d, E => fun D ρ S => wpE G Γ a E ρ S fun x S1 => wpE G Γ b E ρ S1 fun y S2 => wpE G Γ d E ρ S2 fun z S3 => D.nx (((ρ.set l (some z)).set j (some y)).set i (some x)) (((S3.upto cl).upto cj).upto ci)
  | .aug i c op a, E => fun D ρ S => bindO (getV ρ i) fun d => wpE G Γ a E ρ S fun f S1 => augS op d f S1 fun g S2 => D.nx (ρ.set i (some g)) (S2.upto c)
  | .ite c a b, E => fun D ρ S => wpB G Γ c E ρ S fun k S1 => if k = true then wpSs a E D ρ S1 else wpSs b E D ρ S1
  | .for_ t it body, E => fun D ρ S => wpI G Γ it E ρ S fun ds chk S1 => forS (wpT G Γ t E) (wpSs body E) chk ds D ρ S1
  | .while_ c body, E => fun D ρ S => ∃ n, whileS (wpB G Γ c E) (wpSs body E) n D ρ S
  | .ret a, E => fun D ρ S => wpE G Γ a E ρ S D.rt
  | .retN, _ => fun D _ S => D.rt .non S
  | .raise x a, E => fun _ ρ S => wpE G Γ a E ρ S fun d S1 => E x d S1
  | .pass, _ => fun D ρ S => D.nx ρ S
  | .brk, _ => fun D ρ S => D.bk ρ S
  | .cont, _ => fun D ρ S => D.ct ρ S
  | .heard ic ig ie ik x, _ => fun D ρ S => bindO (getV ρ ik) fun d => ∃ f, d = .ref f ∧ bindO (S.lam f) fun q => ∃ n C, Γ.lc q.1 = some (n, C) ∧ C q.2 S (fun d S' => D.nx (ρ.set ig (some d)) S') (fun n d S' => G.sub n x = true ∧ D.nx ((ρ.set ic (some (.exc n d))).set ie none) (S'.back S))
def wpSs : CSs → EX → DTS
  | .nil, _ => fun D ρ S => D.nx ρ S
  | .cons a r, E => fun D ρ S => wpS a E { D with nx := wpSs r E D } ρ S
end
end

/-! ### what is fixed, and what is looked at -/
inductive GI where
  | fn (j : Nat) (ps : List Str) | val (j : Nat) | cls | exc | blt (id : String) | bty (T : String)
structure Cs where
  T : List (Str × GI)
  N : List Str
  L : List LamD
  hl : Bool
structure Sk where
  sc : Scope
  fn : Str → Bool
  blk : Bool
def Sk.in (K : Sk) (scope : Scope) : Sk := ⟨relS scope K.sc, fun x => scope.names.lookup x == some .cell, true⟩
def nmI (N : List Str) (i : Nat) (x : Str) : Bool := match N[i]? with
  | some y => y == x
  | none => false
def visB (sc : Scope) (x : Str) : Bool := match sc.names.lookup x with
  | some .local => true
  | some .cell => true
  | some .free => true
  | _ => false
def locB (sc : Scope) (x : Str) : Bool := match sc.names.lookup x with
  | some .local => true
  | some .cell => true
  | _ => false
def loB (sc : Scope) (x : Str) : Bool := match sc.names.lookup x with
  | some .local => true
  | _ => false
def cfB (sc : Scope) (x : Str) : Bool := match sc.names.lookup x with
  | some .cell => true
  | some .free => true
  | _ => false
def glB (sc : Scope) (x : Str) : Bool := match sc.names.lookup x with
  | some .globalImplicit => true
  | _ => false
def capL (L : List LamD) (x : Str) : Bool := L.any fun l => l.caps.contains x
/-- one text is the other -/
def eqE : Nat → Expr → Expr → Bool
  | 0, _, _ => false
  | n + 1, .Name x p, .Name y q => x == y && p == q
  | n + 1, .Constant c k p, .Constant d l q => c == d && k == l && p == q
  | n + 1, .Call f as [] p, .Call g bs [] q => eqE n f g && as.length == bs.length && (as.zip bs).all (fun z => eqE n z.1 z.2) && p == q
  | n + 1, .Attribute o a p, .Attribute o' b q => eqE n o o' && a == b && p == q
  | n + 1, .Subscript a b p, .Subscript c d q => eqE n a c && eqE n b d && p == q
  | n + 1, .Compare a ops es p, .Compare b ops' fs q => eqE n a b && ops == ops' && es.length == fs.length && (es.zip fs).all (fun z => eqE n z.1 z.2) && p == q
  | n + 1, .BoolOp op es p, .BoolOp op' fs q => op == op' && es.length == fs.length && (es.zip fs).all (fun z => eqE n z.1 z.2) && p == q
  | n + 1, .UnaryOp op a p, .UnaryOp op' b q => op == op' && eqE n a b && p == q
  | n + 1, .BinOp a op b p, .BinOp c op' d q => eqE n a c && op == op' && eqE n b d && p == q
  | n + 1, .Tuple es k p, .Tuple fs l q => es.length == fs.length && (es.zip fs).all (fun z => eqE n z.1 z.2) && k == l && p == q
  | n + 1, .List es p, .List fs q => es.length == fs.length && (es.zip fs).all (fun z => eqE n z.1 z.2) && p == q
  | _, _, _ => false
theorem zip_all_eq {α : Type} {f : α → α → Bool} (h : ∀ a b, f a b = true → a = b) : ∀ {as bs : List α}, as.length = bs.length → (as.zip bs).all (fun z => f z.1 z.2) = true → as = bs
  | [], [], _, _ => rfl
  | a :: as, b :: bs, hl, he => by
    simp only [List.zip_cons_cons, List.all_cons, Bool.and_eq_true] at he
    rw [h a b he.1, zip_all_eq h (by simpa using hl) he.2]
theorem eqE_ok : ∀ (n : Nat) (a b : Expr), eqE n a b = true → a = b
  | 0, _, _, h => by cases h
  | n + 1, a, b, h => by
    have ih := eqE_ok n
    unfold eqE at h
    split at h
    all_goals first
      | exact absurd h Bool.false_ne_true
      | skip
    all_goals simp only [Bool.and_eq_true, beq_iff_eq] at h
    · rename_i heq; cases heq; obtain ⟨rfl, rfl⟩ := h; rfl
    · rename_i heq; cases heq; obtain ⟨⟨rfl, rfl⟩, rfl⟩ := h; rfl
    · rename_i heq; cases heq; obtain ⟨⟨⟨h1, h2⟩, h3⟩, rfl⟩ := h
      rw [ih _ _ h1, zip_all_eq (f := eqE _) ih h2 h3]
    · rename_i heq; cases heq; obtain ⟨⟨h1, rfl⟩, rfl⟩ := h
      rw [ih _ _ h1]
    · rename_i heq; cases heq; obtain ⟨⟨h1, h2⟩, rfl⟩ := h
      rw [ih _ _ h1, ih _ _ h2]
    · rename_i heq; cases heq; obtain ⟨⟨⟨⟨h1, rfl⟩, h2⟩, h3⟩, rfl⟩ := h
      rw [ih _ _ h1, zip_all_eq (f := eqE _) ih h2 h3]
    · rename_i heq; cases heq; obtain ⟨⟨⟨rfl, h2⟩, h3⟩, rfl⟩ := h
      rw [zip_all_eq (f := eqE _) ih h2 h3]
    · rename_i heq; cases heq; obtain ⟨⟨rfl, h1⟩, rfl⟩ := h
      rw [ih _ _ h1]
    · rename_i heq; cases heq; obtain ⟨⟨⟨h1, rfl⟩, h2⟩, rfl⟩ := h
      rw [ih _ _ h1, ih _ _ h2]
    · rename_i heq; cases heq; obtain ⟨⟨⟨h2, h3⟩, rfl⟩, rfl⟩ := h
      rw [zip_all_eq (f := eqE _) ih h2 h3]
    · rename_i heq; cases heq; obtain ⟨⟨h2, h3⟩, rfl⟩ := h
      rw [zip_all_eq (f := eqE _) ih h2 h3]
def eqAs (a b : List Arg) : Bool := a.length == b.length && (a.zip b).all fun z => z.1.arg == z.2.arg && z.1.annotation.isNone && z.2.annotation.isNone && z.1.pos == z.2.pos
def plainA (a : Arguments) : Bool := a.posonlyargs.isEmpty && a.vararg.isNone && a.kwonlyargs.isEmpty && a.kw_defaults.isEmpty && a.kwarg.isNone && a.defaults.isEmpty
def eqA (a b : Arguments) : Bool := plainA a && plainA b && eqAs a.args b.args
theorem eqAs_ok {a b : List Arg} (h : eqAs a b = true) : a = b := by
  unfold eqAs at h
  simp only [Bool.and_eq_true, beq_iff_eq] at h
  refine zip_all_eq (f := fun x y : Arg => x.arg == y.arg && x.annotation.isNone && y.annotation.isNone && x.pos == y.pos) (fun x y h => ?_) h.1 h.2
  obtain ⟨x1, x2, x3⟩ := x
  obtain ⟨y1, y2, y3⟩ := y
  simp only [Bool.and_eq_true, beq_iff_eq, Option.isNone_iff_eq_none] at h
  obtain ⟨⟨⟨rfl, rfl⟩, rfl⟩, rfl⟩ := h
  rfl
theorem eqA_ok {a b : Arguments} (h : eqA a b = true) : a = b := by
  obtain ⟨a1, a2, a3, a4, a5, a6, a7⟩ := a
  obtain ⟨b1, b2, b3, b4, b5, b6, b7⟩ := b
  unfold eqA plainA at h
  simp only [Bool.and_eq_true, Option.isNone_iff_eq_none, List.isEmpty_iff] at h
  obtain ⟨⟨⟨⟨⟨⟨⟨rfl, rfl⟩, rfl⟩, rfl⟩, rfl⟩, rfl⟩, ⟨⟨⟨⟨⟨rfl, rfl⟩, rfl⟩, rfl⟩, rfl⟩, rfl⟩⟩, h⟩ := h
  rw [eqAs_ok h]
/-- a lambda's text is that of the table -/
def lamB (C : Cs) (K : Sk) (j : Nat) (ixs : List Nat) (params : Arguments) (body : Expr) (scope : Scope) : Bool :=
  C.hl && !K.blk && (match C.L[j]? with
    | some ld => eqA ld.args params && eqE 40 ld.body body && decide (ld.scope = scope) && ld.caps.length == ixs.length && scope.names.all (fun y => !(y.2 == .free) || ld.caps.contains y.1) &&
        (ld.caps.zip ixs).all fun z => scope.names.contains (z.1, NameKind.free) && cfB K.sc z.1 && nmI C.N z.2 z.1
    | none => false)
def notSup : Expr → Bool
  | .Call (.Name _ _) [] [] _ => false
  | _ => true
def notSet : Expr → Bool
  | .Set _ _ _ => false
  | _ => true
def notSl : Expr → Bool
  | .Slice _ _ _ _ => false
  | _ => true
/-- tests whose truth is their value's -/
def plainT : Expr → Bool
  | .UnaryOp .Not _ _ => false
  | .BoolOp _ _ _ => false
  | .IfExp _ _ _ _ => false
  | .Compare _ _ _ _ => false
  | _ => true
def noMarks (ops : List CmpOp) : Bool := ops.all fun o => o != .In && o != .NotIn
def isFn (C : Cs) (x : Str) (j : Nat) : Option (List Str) := match C.T.lookup x with
  | some (.fn i ps) => if i = j then some ps else none
  | _ => none
def isVal (C : Cs) (x : Str) (j : Nat) : Bool := match C.T.lookup x with
  | some (.val i) => i == j
  | _ => false
def isCls (C : Cs) (x : Str) : Bool := match C.T.lookup x with
  | some .cls => true
  | some .exc => true
  | _ => false
def isExc (C : Cs) (x : Str) : Bool := match C.T.lookup x with
  | some .exc => true
  | _ => false
def isBlt (C : Cs) (x : Str) (id : String) : Bool := match C.T.lookup x with
  | some (.blt i) => i == id
  | _ => false
def isBty (C : Cs) (x : Str) (id : String) : Bool := match C.T.lookup x with
  | some (.bty i) => i == id
  | _ => false
def blkB (N : List Str) (sc scope : Scope) (own : List (Str × Nat)) : Bool :=
  scope.kind == .function && scope.names.all (fun y => scope.names.lookup y.1 == some y.2) && own.all (fun p => nmI N p.2 p.1) &&
  scope.names.all (fun y => !(y.2 == .free) || cfB sc y.1) && scope.names.all (fun y => !(y.2 == .local || y.2 == .cell) || (own.any (fun p => p.1 == y.1) || !N.contains y.1))
mutual
def ctIn (vs : List Nat) : CT → Bool
  | .name i _ => vs.contains i
  | .tup ts => ctsIn vs ts
  | .sub _ _ => false
def ctsIn (vs : List Nat) : CTs → Bool
  | .nil => true
  | .cons t r => ctIn vs t && ctsIn vs r
end
section
variable (C : Cs)
mutual
def okE : CE → Sk → Expr → Bool
  | .var i, K, e => (match e with | .Name x _ => nmI C.N i x && visB K.sc x | _ => false)
  | .glob j, K, e => (match e with | .Name x _ => glB K.sc x && isVal C x j | _ => false)
  | .cls n, K, e => (match e with | .Name x _ => glB K.sc x && isCls C x && x == n | _ => false)
  | .ty t, K, e => (match e with | .Name x _ => glB K.sc x && isBty C x t | _ => false)
  | .int i, _, e => (match e with | .Constant (.int j) _ _ => i == j | _ => false)
  | .str x, _, e => (match e with | .Constant (.str y) _ _ => x == y | _ => false)
  | .bl b, _, e => (match e with | .Constant (.bool c) _ _ => b == c | _ => false)
  | .non, _, e => (match e with | .Constant .none _ _ => true | _ => false)
  | .bin op a b, K, e => (match e with | .BinOp x o y _ => o == op && okE a K x && okE b K y | _ => false)
  | .neg a, K, e => (match e with | .UnaryOp .USub x _ => okE a K x | _ => false)
  | .nt a, K, e => (match e with | .UnaryOp .Not x _ => okE a K x | _ => false)
  | .cmp op a b, K, e => (match e with | .Compare x [o] [y] _ => o == op && okE a K x && okE b K y && notSet y | _ => false)
  | .chain a r, K, e => (match e with | .Compare x (o :: o' :: os) (y :: y' :: ys) _ => noMarks (o :: o' :: os) && okE a K x && okCh r K (o :: o' :: os) (y :: y' :: ys) | _ => false)
  | .bo op es, K, e => (match e with | .BoolOp o vs _ => o == op && okEn es K vs | _ => false)
  | .ife c a b, K, e => (match e with | .IfExp t x y _ => okB c K t && okE a K x && okE b K y | _ => false)
  | .tup es, K, e => (match e with | .Tuple xs _ _ => okEs es K xs | _ => false)
  | .lst es, K, e => (match e with | .List xs _ => okEs es K xs | _ => false)
  | .tupS es, K, e => (match e with | .Tuple xs _ _ => okX es K xs | _ => false)
  | .lstS es, K, e => (match e with | .List xs _ => okX es K xs | _ => false)
  | .dict es, K, e => (match e with | .Dict ks vs _ => okD es K ks vs && ks.length ≤ 15 | _ => false)
  | .ix a b, K, e => (match e with | .Subscript x y _ => okE a K x && okE b K y && notSl y | _ => false)
  | .sl a lo hi, K, e => (match e with | .Subscript x (.Slice l u none _) _ => okE a K x && okO lo K l && okO hi K u | _ => false)
  | .rev a, K, e => (match e with | .Subscript x (.Slice none none (some (.UnaryOp .USub (.Constant (.int i) _ _) _)) _) _ => i == 1 && okE a K x | _ => false)
  | .call j es ks, K, e => (match e with
    | .Call (.Name f _) as kws _ => glB K.sc f && (match isFn C f j with
      | some ps => okEs es K as && okK ks K kws && kws.all (fun k => k.arg.isSome) && (kws.isEmpty || kws.filterMap (·.arg) == ps.drop as.length)
      | none => false)
    | _ => false)
  | .callB id es, K, e => (match e with | .Call (.Name f _) (a :: as) [] _ => glB K.sc f && isBlt C f id && okEs es K (a :: as) | _ => false)
  | .callT t es, K, e => (match e with | .Call (.Name f _) (a :: as) [] _ => glB K.sc f && isBty C f t && okEs es K (a :: as) | _ => false)
  | .callV i es, K, e => (match e with | .Call (.Name x _) as [] _ => nmI C.N i x && visB K.sc x && okEs es K as | _ => false)
  | .met nm o es, K, e => (match e with | .Call (.Attribute x n ap) as [] cp => n == Str.ofString nm && ap.endLine == cp.line && notSup x && okE o K x && okEs es K as && as.length < 20 | _ => false)
  | .lam j ixs, K, e => (match e with | .Lambda params body scope _ => lamB C K j ixs params body scope | _ => false)
  | .value o, K, e => (match e with | .Attribute x n _ => n == ("value" : Str) && notSup x && okE o K x | _ => false)
  | .rng isT es, K, e => (match e with
    | .Call (.Name f _) [.Call (.Name r _) (a :: as) [] _] [] _ => f == (if isT then ("tuple" : Str) else ("list" : Str)) && r == ("range" : Str) && glB K.sc f && glB K.sc r && isBty C f (if isT then "tuple" else "list") && isBty C r "range" && okEs es K (a :: as)
    | _ => false)
  | .lc tg it ifs elt own, K, e => (match e with
    | .ListComp x [g] scope _ => g.is_async == 0 && blkB C.N K.sc scope own && okI it K g.iter && notSet g.iter && ctIn (own.map (·.2)) tg && okT tg (K.in scope) g.target && okBo ifs (K.in scope) g.ifs && okE elt (K.in scope) x
    | _ => false)
def okEs : CEs → Sk → List Expr → Bool
  | .nil, _, es => es.isEmpty
  | .cons a r, K, es => (match es with | x :: xs => !isStar x && okE a K x && okEs r K xs | _ => false)
def okX : CSt → Sk → List Expr → Bool
  | .nil, _, es => es.isEmpty
  | .cons s a r, K, es => (match es with
    | x :: xs => (if s then (match x with | .Starred y _ => okE a K y | _ => false) else !isStar x && okE a K x) && okX r K xs
    | _ => false)
def okK : CEs → Sk → List Keyword → Bool
  | .nil, _, es => es.isEmpty
  | .cons a r, K, es => (match es with | x :: xs => okE a K x.value && okK r K xs | _ => false)
def okD : CEs → Sk → List (Option Expr) → List Expr → Bool
  | .nil, _, ks, vs => ks.isEmpty && vs.isEmpty
  | .cons a r, K, ks, vs => (match ks with
    | some k :: ks => okE a K k && okDv r K ks vs
    | _ => false)
def okDv : CEs → Sk → List (Option Expr) → List Expr → Bool
  | .nil, _, _, _ => false
  | .cons a r, K, ks, vs => (match vs with
    | v :: vs => okE a K v && okD r K ks vs
    | _ => false)
def okEn : CEn → Sk → List Expr → Bool
  | .one a, K, es => (match es with | [x] => okE a K x | _ => false)
  | .more a r, K, es => (match es with | x :: y :: xs => okE a K x && okEn r K (y :: xs) | _ => false)
def okO : CEo → Sk → Option Expr → Bool
  | .none, _, o => o.isNone
  | .some a, K, o => (match o with | some x => okE a K x | none => false)
def okCh : CCh → Sk → List CmpOp → List Expr → Bool
  | .last op b, K, os, es => (match os, es with | [o], [y] => o == op && okE b K y | _, _ => false)
  | .link op b r, K, os, es => (match os, es with | o :: o' :: os, y :: y' :: ys => o == op && okE b K y && okCh r K (o' :: os) (y' :: ys) | _, _ => false)
def okB : CB → Sk → Expr → Bool
  | .v a, K, e => plainT e && okE a K e
  | .cmp op a b, K, e => (match e with | .Compare x [o] [y] _ => o == op && okE a K x && okE b K y && notSet y | _ => false)
  | .chain a r, K, e => (match e with | .Compare x (o :: o' :: os) (y :: y' :: ys) _ => noMarks (o :: o' :: os) && okE a K x && okCh r K (o :: o' :: os) (y :: y' :: ys) | _ => false)
  | .nt b, K, e => (match e with | .UnaryOp .Not x _ => okB b K x | _ => false)
  | .bo op bs, K, e => (match e with | .BoolOp o vs _ => o == op && okBs bs K vs | _ => false)
def okBs : CBs → Sk → List Expr → Bool
  | .one a, K, es => (match es with | [x] => okB a K x | _ => false)
  | .more a r, K, es => (match es with | x :: y :: xs => okB a K x && okBs r K (y :: xs) | _ => false)
def okBo : CBo → Sk → List Expr → Bool
  | .none, _, es => es.isEmpty
  | .some b, K, es => (match es with | [x] => okB b K x | _ => false)
def okI : CI → Sk → Expr → Bool
  | .val a, K, e => okE a K e
  | .rng es, K, e => (match e with | .Call (.Name r _) (a :: as) [] _ => r == ("range" : Str) && glB K.sc r && isBty C r "range" && okEs es K (a :: as) | _ => false)
def okT : CT → Sk → Expr → Bool
  | .name i c, K, e => (match e with | .Name x _ => nmI C.N i x && locB K.sc x && (K.fn x || loB K.sc x) && capL C.L x == c | _ => false)
  | .tup ts, K, e => (match e with | .Tuple es _ _ => okTs ts K es | _ => false)
  | .sub o i, K, e => (match e with | .Subscript x y _ => okE o K x && okE i K y && notSl y | _ => false)
def okTs : CTs → Sk → List Expr → Bool
  | .nil, _, es => es.isEmpty
  | .cons t r, K, es => (match es with | x :: xs => !isStar x && okT t K x && okTs r K xs | _ => false)
end
end
end DL

namespace DL
open PySem PySem.Spec PyProof.Rows L2

theorem DE.imp {G : GS} {X : Cx} {S0 : DS} {e : Expr} {t t' : DT} (h : DE G X S0 e t) (c : ∀ ρ S Q, t' ρ S Q → t ρ S Q) : DE G X S0 e t' := ⟨fun pins s σ H ρ S Q I R q => h.run pins s σ H ρ S Q I R (c _ _ _ q)⟩
theorem nmI_ok {N : List Str} {i : Nat} {x : Str} (h : nmI N i x = true) : N[i]? = some x := by
  unfold nmI at h
  split at h
  · rename_i y e; rw [e, eq_of_beq h]
  · cases h
theorem visB_ok {sc : Scope} {x : Str} (h : visB sc x = true) : Vis sc x := by
  unfold visB at h
  split at h
  · rename_i e; exact .inl e
  · rename_i e; exact .inr (.inl e)
  · rename_i e; exact .inr (.inr e)
  · cases h
theorem locB_ok {sc : Scope} {x : Str} (h : locB sc x = true) : Loc sc x := by
  unfold locB at h
  split at h
  · rename_i e; exact .inl e
  · rename_i e; exact .inr e
  · cases h
theorem loB_ok {sc : Scope} {x : Str} (h : loB sc x = true) : sc.names.lookup x = some .local := by
  unfold loB at h
  split at h
  · rename_i e; exact e
  · cases h
theorem cfB_ok {sc : Scope} {x : Str} (h : cfB sc x = true) : sc.names.lookup x = some .cell ∨ sc.names.lookup x = some .free := by
  unfold cfB at h
  split at h
  · rename_i e; exact .inl e
  · rename_i e; exact .inr e
  · cases h
theorem glB_ok {sc : Scope} {x : Str} (h : glB sc x = true) : sc.names.lookup x = some .globalImplicit := by
  unfold glB at h
  split at h
  · rename_i e; exact e
  · cases h
theorem isFn_ok {C : Cs} {x : Str} {j : Nat} {ps : List Str} (h : isFn C x j = some ps) : C.T.lookup x = some (.fn j ps) := by
  unfold isFn at h
  split at h
  · rename_i i ps' e
    split at h
    · rename_i ei; cases h; rw [e, ei]
    · cases h
  · cases h
theorem isVal_ok {C : Cs} {x : Str} {j : Nat} (h : isVal C x j = true) : C.T.lookup x = some (.val j) := by
  unfold isVal at h
  split at h
  · rename_i i e; rw [e, eq_of_beq h]
  · cases h
theorem isCls_ok {C : Cs} {x : Str} (h : isCls C x = true) : C.T.lookup x = some .cls ∨ C.T.lookup x = some .exc := by
  unfold isCls at h
  split at h
  · rename_i e; exact .inl e
  · rename_i e; exact .inr e
  · cases h
theorem isExc_ok {C : Cs} {x : Str} (h : isExc C x = true) : C.T.lookup x = some .exc := by
  unfold isExc at h
  split at h
  · rename_i e; exact e
  · cases h
theorem isBlt_ok {C : Cs} {x : Str} {id : String} (h : isBlt C x id = true) : C.T.lookup x = some (.blt id) := by
  unfold isBlt at h
  split at h
  · rename_i i e; rw [e, eq_of_beq h]
  · cases h
theorem isBty_ok {C : Cs} {x : Str} {id : String} (h : isBty C x id = true) : C.T.lookup x = some (.bty id) := by
  unfold isBty at h
  split at h
  · rename_i i e; rw [e, eq_of_beq h]
  · cases h
theorem notSet_it {e : Expr} {env : Env} (h : notSet e = true) : ∀ x, foldedSetIterable e env x = pure x := by
  intro x
  cases e <;> first | rfl | exact absurd h Bool.false_ne_true
theorem notSet_mk {e : Expr} {op : CmpOp} (h : notSet e = true) : behindInMarks op e = false := by
  cases e <;> first | rfl | exact absurd h Bool.false_ne_true
theorem notSup_ok {o : Expr} {nm : Str} {env : Env} {w : Sem Value} (h : notSup o = true) : attributeBase o nm env w = w := by
  cases o with
  | Call f as ks p =>
    cases f with
    | Name x q =>
      cases as with
      | nil => cases ks with
        | nil => exact absurd h Bool.false_ne_true
        | cons _ _ => rfl
      | cons _ _ => rfl
    | _ => rfl
  | _ => rfl
theorem notSl_ok {b : Expr} (h : notSl b = true) : PlainIx b := by
  intro o i
  cases b <;> first | rfl | exact absurd h Bool.false_ne_true
theorem notSl_ne {b : Expr} (h : notSl b = true) : ∀ lo hi st p, b ≠ .Slice lo hi st p := fun lo hi st p e => by
  subst e
  exact absurd h Bool.false_ne_true
theorem plainT_ok {e : Expr} {env : Env} (h : plainT e = true) : ∀ whole, isTrue e env whole = (do let v ← whole; standAt e.pos; holding [v] (truthy v)) := by
  intro w
  cases e with
  | UnaryOp op a p => cases op <;> first | rfl | exact absurd h Bool.false_ne_true
  | _ => first | rfl | exact absurd h Bool.false_ne_true
theorem noMarks_ok {ops : List CmpOp} {es : List Expr} (h : noMarks ops = true) : lastMarks ops es = false := lastMarks_false h
theorem blkB_ok {N : List Str} {sc scope : Scope} {own : List (Str × Nat)} (h : blkB N sc scope own = true) : BlkOk N sc scope own := by
  unfold blkB at h
  simp only [Bool.and_eq_true, List.all_eq_true, beq_iff_eq, Bool.or_eq_true, Bool.not_eq_true', List.any_eq_true] at h
  obtain ⟨⟨⟨⟨h1, h2⟩, h3⟩, h4⟩, h5⟩ := h
  refine ⟨h1, h2, fun p hp => nmI_ok (h3 p hp), fun y hy e => ?_, fun y hy e => ?_⟩
  · rcases h4 y hy with q | q
    · rw [e] at q; cases q
    · exact cfB_ok q
  · rcases h5 y hy with q | q
    · rcases e with e | e <;> rw [e] at q <;> cases q
    · rcases q with ⟨p, hp, hq⟩ | q
      · exact .inl (List.mem_map.mpr ⟨p, hp, hq⟩)
      · refine .inr fun hm => ?_
        have := List.contains_iff_mem.mpr hm
        rw [this] at q; cases q
theorem lookup_kindB {scope : Scope} (h : blkB [] scope scope [] = true) : True := trivial

/-- what a global name is -/
def GOk (G : GS) (Γ : Ga) (P : Program) (w : World) (K : PySem.W.Frag) (mg : Str → Option Value) (base : Heap) (k : Nat) (x : Str) : GI → Prop
  | .fn j ps => ∃ f fd, FnD G P w K mg base k f fd ps (Γ.fn j) ∧ mg x = some (.ref f) ∧ PySem.W.keepIn K (.ref f) = true ∧ BindD fd ps
  | .val j => ∃ v u, mg x = some u ∧ RelV v u ∧ ∀ H, Dat K G H (Γ.gv j) v
  | .cls => mg x = some (.ref (G.cl x))
  | .exc => mg x = some (.ref (G.cl x)) ∧ ∃ F fI cc, DX.FenTxt P K mg F fI cc ∧ DX.OwnTxt K F fI (G.cl x)
  | .blt id => mg x = none ∧ bootBuiltins x = some (.builtin id) ∧ x ≠ "__name__"
  | .bty T => mg x = none ∧ bootBuiltins x = some (.type T) ∧ x ≠ "__name__"
/-- the air in which the text runs -/
structure SX (G : GS) (Γ : Ga) (C : Cs) (K : Sk) (k : Nat) (X : Cx) (S0 : DS) (E : EX) : Prop where
  hN : X.N = C.N
  nd : C.N.Nodup
  nm : ∀ x ∈ C.N, (x == ("__debug__" : Str)) = false ∧ (x == ("__classdict__" : Str)) = false
  sc : X.env.scope = K.sc
  kind : K.sc.kind = .function
  fn : ∀ x, K.fn x = true → X.fn x = true
  calm : X.calm = true
  lams : G.lams = C.L
  T : ∀ x g, C.T.lookup x = some g → (x == ("__debug__" : Str)) = false ∧ GOk G Γ X.prog X.w X.K X.mg X.base k x g
  room : RoomD k X.A
  lamr : ∀ j n D, Γ.lc j = some (n, D) → LamRun G X.prog X.w X.K X.mg X.base k j n D
  tk : TakesE G X S0 E
  nod : X.base.NoDigits
  XO : ExcsOk X.K G Γ.exn
  exm : ∀ x n, G.sub n x = true → PySem.W.exmOne X.K (.ref (G.cl n)) (.ref (G.cl x)) = some true
  tab : C.hl = true → K.blk = false → ∃ c P, LamX.TabB X.base X.mg c P ∧ X.env.code = .ref c ∧ (P, X.env.qual ++ "<lambda>") ∈ G.tabs ∧ ∀ p ∈ G.tabs, p.1 = P → p.2 = X.env.qual ++ "<lambda>"
theorem takes_noE {G : GS} {X : Cx} {S0 : DS} (h : X.xe = fun _ _ => False) : TakesE G X S0 noE := fun u s' q => by
  obtain ⟨a, B, sI, pins, σ, H, cls, d, e, I, nb, up, sky, na, os, ag, w⟩ := q
  obtain ⟨_, _, _, _, _, _, _, _, _, _, _, _, z⟩ := w
  exact z.elim
section
variable {G : GS} {Γ : Ga} {C : Cs} {K : Sk} {k : Nat} {X : Cx} {S0 : DS} {E : EX}
theorem SX.blk (x : SX G Γ C K k X S0 E) {scope : Scope} (hk : scope.kind = .function) (s : Shared) (H : Hp) (S1 : DS) (L : Addr) (cl : List (Str × Addr)) (fp : List Addr) :
    SX G Γ C (K.in scope) k (X.blk s H scope (compEnvC scope cl L X.env) fp) S1 noE where
  hN := x.hN
  nd := x.nd
  nm := x.nm
  sc := by
    show relabel scope X.env = relS scope K.sc
    rw [← x.sc]; rfl
  kind := hk
  fn := fun _ h => h
  calm := x.calm
  lams := x.lams
  T := x.T
  room := x.room
  lamr := x.lamr
  tk := takes_noE rfl
  nod := x.nod
  XO := x.XO
  exm := x.exm
  tab := fun _ h => by cases h
theorem SX.un (x : SX G Γ C K k X S0 E) : X.A.units + 65 < cLine := by
  have := x.room.room.un
  omega
theorem SX.gl (x : SX G Γ C K k X S0 E) {n : Str} (h : glB K.sc n = true) : Gl X n := by
  show X.env.scope.names.lookup n = some .globalImplicit
  rw [x.sc]; exact glB_ok h
theorem SX.vis (x : SX G Γ C K k X S0 E) {n : Str} (h : visB K.sc n = true) : Vis X.env.scope n := by rw [x.sc]; exact visB_ok h
theorem SX.at (x : SX G Γ C K k X S0 E) {i : Nat} {n : Str} (h : nmI C.N i n = true) : X.N[i]? = some n := by rw [x.hN]; exact nmI_ok h
theorem SX.na (x : SX G Γ C K k X S0 E) {i : Nat} {n : Str} (h : nmI C.N i n = true) : (n == ("__debug__" : Str)) = false ∧ (n == ("__classdict__" : Str)) = false := x.nm n (List.mem_of_getElem? (nmI_ok h))
theorem SX.cap (x : SX G Γ C K k X S0 E) (n : Str) : capL C.L n = capN G n := by unfold capL capN; rw [x.lams]
theorem SX.nodup (x : SX G Γ C K k X S0 E) : X.N.Nodup := by rw [x.hN]; exact x.nd
end
end DL

namespace DL
open PySem PySem.Spec PyProof.Rows L2

theorem wipeR_set {ρ : Rho} {i : Nat} {d : Option D} : ∀ {vs : List Nat}, i ∈ vs → wipeR (ρ.set i d) vs = wipeR ρ vs
  | v :: vs, h => by
    refine List.ext_getElem? fun j => ?_
    by_cases hj : j ∈ v :: vs
    · by_cases hl : j < ρ.length
      · rw [wipeR_none hj (by rw [List.length_set]; exact hl), wipeR_none hj hl]
      · rw [List.getElem?_eq_none (by rw [wipeR_length, List.length_set]; omega), List.getElem?_eq_none (by rw [wipeR_length]; omega)]
    · rw [wipeR_out hj, wipeR_out hj, List.getElem?_set_ne (fun e => hj (by rw [← e]; exact h))]
section
variable {G : GS} {Γ : Ga}
mutual
theorem putsT {vs : List Nat} : ∀ (t : CT) (E : EX) (d : D) (ρ : Rho) (S : DS) (Q Q' : Rho → DS → Prop), ctIn vs t = true → (∀ ρ1 S1, Q ρ1 S1 → wipeR ρ1 vs = wipeR ρ vs → Q' ρ1 S1) → wpT G Γ t E d ρ S Q → wpT G Γ t E d ρ S Q'
  | .name i c, E, d, ρ, S, Q, Q', h, q, w => by
    have hi : i ∈ vs := List.contains_iff_mem.mp h
    exact q _ _ w (wipeR_set hi)
  | .tup ts, E, d, ρ, S, Q, Q', h, q, w => by
    cases d with
    | tup ds => exact ⟨w.1, putsTs ts E ds ρ S Q Q' h q w.2⟩
    | _ => exact (show False from w).elim
  | .sub _ _, _, _, _, _, _, _, h, _, _ => absurd h Bool.false_ne_true
theorem putsTs {vs : List Nat} : ∀ (t : CTs) (E : EX) (d : List D) (ρ : Rho) (S : DS) (Q Q' : Rho → DS → Prop), ctsIn vs t = true → (∀ ρ1 S1, Q ρ1 S1 → wipeR ρ1 vs = wipeR ρ vs → Q' ρ1 S1) → wpTs G Γ t E d ρ S Q → wpTs G Γ t E d ρ S Q'
  | .nil, E, d, ρ, S, Q, Q', h, q, w => ⟨w.1, q _ _ w.2 rfl⟩
  | .cons t r, E, d, ρ, S, Q, Q', h, q, w => by
    have h : (ctIn vs t && ctsIn vs r) = true := h
    rw [Bool.and_eq_true] at h
    cases d with
    | nil => exact (show False from w).elim
    | cons d ds => exact putsT t E d ρ S _ _ h.1 (fun ρ1 S1 w1 e1 => putsTs r E ds ρ1 S1 _ _ h.2 (fun ρ2 S2 w2 e2 => q ρ2 S2 w2 (e2.trans e1)) w1) w
end
theorem puts_ok {vs : List Nat} {t : CT} {E : EX} (h : ctIn vs t = true) : PutsIn (wpT G Γ t E) vs := fun d ρ S Q w => putsT t E d ρ S Q _ h (fun _ _ q e => ⟨q, e⟩) w
end
theorem DTg.imp {G : GS} {X : Cx} {S0 : DS} {e : Expr} {t t' : DTGt} (h : DTg G X S0 e t) (c : ∀ d ρ S Q, t' d ρ S Q → t d ρ S Q) : DTg G X S0 e t' := ⟨fun pins s σ H ρ S v u d Q I R r hd q => h.run pins s σ H ρ S v u d Q I R r hd (c _ _ _ _ q)⟩
theorem DTgs.imp {G : GS} {X : Cx} {S0 : DS} {e : List Expr} {t t' : List D → Rho → DS → (Rho → DS → Prop) → Prop} (h : DTgs G X S0 e t) (c : ∀ d ρ S Q, t' d ρ S Q → t d ρ S Q) : DTgs G X S0 e t' := ⟨fun pins s σ H ρ S v u d Q I R r hd q => h.run pins s σ H ρ S v u d Q I R r hd (c _ _ _ _ q)⟩
section
variable {G : GS} {Γ : Ga} {C : Cs} {k : Nat}
theorem okEs_star {es : CEs} {K : Sk} {xs : List Expr} (h : okEs C es K xs = true) : xs.all (fun e => !isStar e) = true := by
  induction xs generalizing es with
  | nil => rfl
  | cons x xs ih =>
    cases es with
    | nil => exact absurd h Bool.false_ne_true
    | cons a r =>
      have h : (!isStar x && okE C a K x && okEs C r K xs) = true := h
      simp only [Bool.and_eq_true] at h
      rw [List.all_cons, h.1.1, ih h.2]; rfl
theorem okEs_len : ∀ {es : CEs} {K : Sk} {xs : List Expr}, okEs C es K xs = true → xs.length = es.len
  | .nil, _, [], _ => rfl
  | .nil, _, x :: xs, h => absurd h Bool.false_ne_true
  | .cons a r, _, [], h => absurd h Bool.false_ne_true
  | .cons a r, K, x :: xs, h => by
    have h : (!isStar x && okE C a K x && okEs C r K xs) = true := h
    simp only [Bool.and_eq_true] at h
    show xs.length + 1 = r.len + 1
    rw [okEs_len h.2]
theorem okTs_star {ts : CTs} {K : Sk} {xs : List Expr} (h : okTs C ts K xs = true) : xs.all (fun e => !isStar e) = true := by
  induction xs generalizing ts with
  | nil => rfl
  | cons x xs ih =>
    cases ts with
    | nil => exact absurd h Bool.false_ne_true
    | cons a r =>
      have h : (!isStar x && okT C a K x && okTs C r K xs) = true := h
      simp only [Bool.and_eq_true] at h
      rw [List.all_cons, h.1.1, ih h.2]; rfl
theorem okTs_len : ∀ {es : CTs} {K : Sk} {xs : List Expr}, okTs C es K xs = true → xs.length = es.len
  | .nil, _, [], _ => rfl
  | .nil, _, x :: xs, h => absurd h Bool.false_ne_true
  | .cons a r, _, [], h => absurd h Bool.false_ne_true
  | .cons a r, K, x :: xs, h => by
    have h : (!isStar x && okT C a K x && okTs C r K xs) = true := h
    simp only [Bool.and_eq_true] at h
    show xs.length + 1 = r.len + 1
    rw [okTs_len h.2]
theorem keywordEach_names {env : Env} : ∀ {kws : List Keyword} {pos : Pos}, (backToKw pos (keywordEach kws env)).map (·.1) = kws.map (·.arg)
  | [], _ => rfl
  | ⟨n, e, p⟩ :: r, pos => by
    show n :: (backToKw pos (keywordEach r env)).map (·.1) = n :: r.map (·.arg)
    rw [keywordEach_names]
theorem kw_all {env : Env} {kws : List Keyword} {pos : Pos} (h : kws.all (fun k => k.arg.isSome) = true) : (backToKw pos (keywordEach kws env)).all (·.1.isSome) = true := by
  have e := keywordEach_names (env := env) (kws := kws) (pos := pos)
  have : ((backToKw pos (keywordEach kws env)).map (·.1)).all (·.isSome) = true := by
    rw [e, List.all_map]; exact h
  rw [List.all_map] at this
  exact this
theorem kw_fm {env : Env} {kws : List Keyword} {pos : Pos} : (backToKw pos (keywordEach kws env)).filterMap (·.1) = kws.filterMap (·.arg) := by
  have e := keywordEach_names (env := env) (kws := kws) (pos := pos)
  have h1 : (backToKw pos (keywordEach kws env)).filterMap (·.1) = ((backToKw pos (keywordEach kws env)).map (·.1)).filterMap id := by rw [List.filterMap_map]; rfl
  have h2 : kws.filterMap (·.arg) = (kws.map (·.arg)).filterMap id := by rw [List.filterMap_map]; rfl
  rw [h1, h2, e]
theorem lamB_ok {K : Sk} {X : Cx} {S0 : DS} {E : EX} {j : Nat} {ixs : List Nat} {params : Arguments} {body : Expr} {scope : Scope} (x : SX G Γ C K k X S0 E) (h : lamB C K j ixs params body scope = true) :
    LamMk G X j params body scope ixs ∧ defaultsOf params X.env = ([], []) ∧ C.hl = true ∧ K.blk = false := by
  unfold lamB at h
  simp only [Bool.and_eq_true, Bool.not_eq_true'] at h
  obtain ⟨⟨h1, h2⟩, h⟩ := h
  split at h
  · rename_i ld e
    simp only [Bool.and_eq_true, decide_eq_true_eq, beq_iff_eq] at h
    obtain ⟨⟨⟨⟨⟨ha, hb⟩, hs⟩, hl⟩, hf⟩, hz⟩ := h
    have ea := eqA_ok ha
    have eb := eqE_ok _ _ _ hb
    refine ⟨⟨ld, by rw [x.lams]; exact e, ea, eb, hs, hl, fun y hy q => ?_, fun i y hy => ?_⟩, ?_, h1, h2⟩
    · have := List.all_eq_true.mp hf y hy
      rw [q] at this
      exact List.contains_iff_mem.mp (by simpa using this)
    · have hi : i < ld.caps.length := (List.getElem?_eq_some_iff.mp hy).1
      have hi2 : i < ixs.length := by rw [← hl]; exact hi
      have hm : (y, ixs[i]) ∈ ld.caps.zip ixs := by
        refine List.mem_of_getElem? (i := i) ?_
        rw [List.getElem?_zip_eq_some]
        exact ⟨hy, List.getElem?_eq_getElem hi2⟩
      have := List.all_eq_true.mp hz _ hm
      simp only [Bool.and_eq_true] at this
      refine ⟨List.contains_iff_mem.mp this.1.1, by rw [x.sc]; exact cfB_ok this.1.2, ixs[i], List.getElem?_eq_getElem hi2, x.at this.2⟩
    · unfold eqA at ha
      simp only [Bool.and_eq_true] at ha
      have hp := ha.1.2
      unfold plainA at hp
      simp only [Bool.and_eq_true, List.isEmpty_iff] at hp
      have e1 := hp.2
      have e2 := hp.1.1.2
      obtain ⟨b1, b2, b3, b4, b5, b6, b7⟩ := params
      dsimp only at e1 e2
      subst e1 e2
      rfl
  · cases h
end
end DL

namespace DL
open PySem PySem.Spec PyProof.Rows L2
section
variable {G : GS} {Γ : Ga} {C : Cs} {k : Nat}
mutual
theorem sndE : ∀ (c : CE) {K : Sk} {X : Cx} {S0 : DS} {E : EX} {e : Expr}, SX G Γ C K k X S0 E → okE C c K e = true → DE G X S0 e (wpE G Γ c (errTo E S0))
  | .var i, K, X, S0, E, e, x, h => by
    unfold okE at h
    split at h
    · rw [Bool.and_eq_true] at h
      exact de_var (x.at h.1) (x.vis h.2) (x.na h.1).1 (x.na h.1).2
    · cases h
  | .glob j, K, X, S0, E, e, x, h => by
    unfold okE at h
    split at h
    · rw [Bool.and_eq_true] at h
      obtain ⟨d1, v, u, d2, d3, d4⟩ := x.T _ _ (isVal_ok h.2)
      exact de_glob (x.gl h.1) d2 d3 d4 d1
    · cases h
  | .cls n, K, X, S0, E, e, x, h => by
    unfold okE at h
    split at h
    · simp only [Bool.and_eq_true, beq_iff_eq] at h
      obtain ⟨⟨h1, h2⟩, rfl⟩ := h
      rcases isCls_ok h2 with q | q
      · obtain ⟨d1, d2⟩ := x.T _ _ q
        exact de_glob (v := .ref (G.cl _)) (x.gl h1) d2 rfl (fun _ => rfl) d1
      · obtain ⟨d1, d2, _⟩ := x.T _ _ q
        exact de_glob (v := .ref (G.cl _)) (x.gl h1) d2 rfl (fun _ => rfl) d1
    · cases h
  | .ty t, K, X, S0, E, e, x, h => by
    unfold okE at h
    split at h
    · simp only [Bool.and_eq_true] at h
      obtain ⟨d1, d2, d3, d4⟩ := x.T _ _ (isBty_ok h.2)
      exact de_blt (v := .ty t) (x.gl h.1) d2 d3 rfl (fun _ => rfl) d4 d1
    · cases h
  | .int i, K, X, S0, E, e, x, h => by
    unfold okE at h
    split at h
    · cases eq_of_beq h; exact de_int
    · cases h
  | .str i, K, X, S0, E, e, x, h => by
    unfold okE at h
    split at h
    · cases eq_of_beq h; exact de_str
    · cases h
  | .bl i, K, X, S0, E, e, x, h => by
    unfold okE at h
    split at h
    · cases eq_of_beq h; exact de_bl
    · cases h
  | .non, K, X, S0, E, e, x, h => by
    unfold okE at h
    split at h
    · exact de_non
    · cases h
  | .bin op a b, K, X, S0, E, e, x, h => by
    unfold okE at h
    split at h
    · simp only [Bool.and_eq_true, beq_iff_eq] at h
      obtain ⟨⟨rfl, h1⟩, h2⟩ := h
      exact de_bin (sndE a x h1) (sndE b x h2)
    · cases h
  | .neg a, K, X, S0, E, e, x, h => by
    unfold okE at h
    split at h
    · exact de_neg (sndE a x h)
    · cases h
  | .nt a, K, X, S0, E, e, x, h => by
    unfold okE at h
    split at h
    · exact de_not (sndE a x h)
    · cases h
  | .cmp op a b, K, X, S0, E, e, x, h => by
    unfold okE at h
    split at h
    · simp only [Bool.and_eq_true, beq_iff_eq] at h
      obtain ⟨⟨⟨rfl, h1⟩, h2⟩, h3⟩ := h
      exact de_cmp x.un (sndE a x h1) (sndE b x h2) (notSet_mk h3)
    · cases h
  | .chain a r, K, X, S0, E, e, x, h => by
    unfold okE at h
    split at h
    · simp only [Bool.and_eq_true] at h
      exact de_chain (ta := wpE G Γ a (errTo E S0)) (t := wpCh G Γ r (errTo E S0)) (sndE a x h.1.2) (sndCh r x h.2) (noMarks_ok h.1.1)
    · cases h
  | .bo op es, K, X, S0, E, e, x, h => by
    unfold okE at h
    split at h
    · simp only [Bool.and_eq_true, beq_iff_eq] at h
      obtain ⟨rfl, h⟩ := h
      exact sndEn _ es x h
    · cases h
  | .ife c a b, K, X, S0, E, e, x, h => by
    unfold okE at h
    split at h
    · simp only [Bool.and_eq_true] at h
      exact de_ife (sndB c x h.1.1) (sndE a x h.1.2) (sndE b x h.2)
    · cases h
  | .tup es, K, X, S0, E, e, x, h => by
    unfold okE at h
    split at h
    · exact de_tup (sndEs es x h)
    · cases h
  | .lst es, K, X, S0, E, e, x, h => by
    unfold okE at h
    split at h
    · exact de_lst (sndEs es x h)
    · cases h
  | .tupS es, K, X, S0, E, e, x, h => by
    unfold okE at h
    split at h
    · exact de_tup (sndX es x h)
    · cases h
  | .lstS es, K, X, S0, E, e, x, h => by
    unfold okE at h
    split at h
    · exact de_lst (sndX es x h)
    · cases h
  | .dict es, K, X, S0, E, e, x, h => by
    unfold okE at h
    split at h
    · rename_i ks vs pos
      simp only [Bool.and_eq_true, decide_eq_true_eq] at h
      cases es with
      | nil =>
        have h1 : (ks.isEmpty && vs.isEmpty) = true := h.1
        simp only [Bool.and_eq_true, List.isEmpty_iff] at h1
        obtain ⟨rfl, rfl⟩ := h1
        exact de_dict0
      | cons a r =>
        obtain ⟨g1, g2, g3⟩ := sndD (.cons a r) x h.1
        cases ks with
        | nil => exact absurd h.1 Bool.false_ne_true
        | cons q ks => exact de_disp (g1 pos) g3 g2 (by simp) h.2
    · cases h
  | .ix a b, K, X, S0, E, e, x, h => by
    unfold okE at h
    split at h
    · simp only [Bool.and_eq_true] at h
      exact de_ix (sndE a x h.1.1) (sndE b x h.1.2) (notSl_ok h.2)
    · cases h
  | .sl a lo hi, K, X, S0, E, e, x, h => by
    unfold okE at h
    split at h
    · simp only [Bool.and_eq_true] at h
      exact de_slice (sndE a x h.1.1) (sndO lo x h.1.2) (sndO hi x h.2)
    · cases h
  | .rev a, K, X, S0, E, e, x, h => by
    unfold okE at h
    split at h
    · simp only [Bool.and_eq_true, beq_iff_eq] at h
      obtain ⟨rfl, h⟩ := h
      exact de_rev (sndE a x h)
    · cases h
  | .call j es ks, K, X, S0, E, e, x, h => by
    unfold okE at h
    split at h
    · rename_i f p as kws pos
      rw [Bool.and_eq_true] at h
      obtain ⟨hg, h⟩ := h
      split at h
      · rename_i ps hps
        simp only [Bool.and_eq_true, Bool.or_eq_true, beq_iff_eq, List.isEmpty_iff] at h
        obtain ⟨⟨⟨h1, h2⟩, h3⟩, h4⟩ := h
        obtain ⟨d1, fa, fd, F, hm, hk, hb⟩ := x.T _ _ (isFn_ok hps)
        have gl := x.gl hg
        have st := okEs_star h1
        cases as with
        | nil =>
          cases es with
          | cons _ _ => exact absurd h1 Bool.false_ne_true
          | nil =>
            cases kws with
            | nil =>
              cases ks with
              | cons _ _ => exact absurd h2 Bool.false_ne_true
              | nil => exact de_own0 F x.room x.tk gl hm hk hb d1
            | cons kw kws =>
              cases ks with
              | nil => exact absurd h2 Bool.false_ne_true
              | cons a r =>
                refine de_ownK0 F x.room x.tk gl hm hk hb d1 (sndK (.cons a r) x h2) (kw_all h3) ?_
                rw [kw_fm]
                rcases h4 with h4 | h4
                · cases h4
                · rw [h4]; rfl
        | cons e1 es1 =>
          cases es with
          | nil => exact absurd h1 Bool.false_ne_true
          | cons a r =>
            cases kws with
            | nil =>
              cases ks with
              | cons _ _ => exact absurd h2 Bool.false_ne_true
              | nil => exact de_ownA F x.room x.tk gl hm hk hb d1 (sndEs (.cons a r) x h1) st
            | cons kw kws =>
              cases ks with
              | nil => exact absurd h2 Bool.false_ne_true
              | cons a' r' =>
                have hl := okEs_len h1
                have z := de_ownK (pos := pos) (p := p) F x.room x.tk gl hm hk hb d1 (sndEs (.cons a r) x h1) (sndK (.cons a' r') x h2) st (kw_all h3) (by
                  rw [kw_fm]
                  rcases h4 with h4 | h4
                  · cases h4
                  · exact h4)
                rw [hl] at z
                exact z
      · cases h
    · cases h
  | .callB id es, K, X, S0, E, e, x, h => by
    unfold okE at h
    split at h
    · simp only [Bool.and_eq_true] at h
      obtain ⟨d1, d2, d3, d4⟩ := x.T _ _ (isBlt_ok h.1.2)
      exact de_callB (call_blt x.calm x.room x.nod x.XO id) (x.gl h.1.1) d2 d3 (sndEs es x h.2) d4 d1 (okEs_star h.2)
    · cases h
  | .callT t es, K, X, S0, E, e, x, h => by
    unfold okE at h
    split at h
    · simp only [Bool.and_eq_true] at h
      obtain ⟨d1, d2, d3, d4⟩ := x.T _ _ (isBty_ok h.1.2)
      exact de_callTy (call_bty x.calm t) (x.gl h.1.1) d2 d3 (sndEs es x h.2) d4 d1 (okEs_star h.2)
    · cases h
  | .callV i es, K, X, S0, E, e, x, h => by
    unfold okE at h
    split at h
    · rename_i f p as pos
      simp only [Bool.and_eq_true] at h
      have hv := de_var (G := G) (S0 := S0) (pos := p) (x.at h.1.1) (x.vis h.1.2) (x.na h.1.1).1 (x.na h.1.1).2
      cases as with
      | nil =>
        cases es with
        | cons _ _ => exact absurd h.2 Bool.false_ne_true
        | nil => exact de_lam0 (LC := Γ.lc) x.lamr x.room x.tk hv
      | cons a as =>
        cases es with
        | nil => exact absurd h.2 Bool.false_ne_true
        | cons b r => exact de_lamA (LC := Γ.lc) x.lamr x.room x.tk hv (sndEs (.cons b r) x h.2) (okEs_star h.2)
    · cases h
  | .met nm o es, K, X, S0, E, e, x, h => by
    unfold okE at h
    split at h
    · rename_i xo n ap as cp
      simp only [Bool.and_eq_true, beq_iff_eq, decide_eq_true_eq] at h
      obtain ⟨⟨⟨⟨⟨h1, h2⟩, h3⟩, h4⟩, h5⟩, h6⟩ := h
      cases as with
      | nil =>
        cases es with
        | cons _ _ => exact absurd h5 Bool.false_ne_true
        | nil => exact de_met0 h1 (sndE o x h4) (notSup_ok h3) (by rw [h2]; exact beq_self_eq_true _)
      | cons a as =>
        cases es with
        | nil => exact absurd h5 Bool.false_ne_true
        | cons b r => exact de_metA h1 (sndE o x h4) (sndEs (.cons b r) x h5) (notSup_ok h3) (by rw [h2]; exact beq_self_eq_true _) (okEs_star h5) h6
    · cases h
  | .lam j ixs, K, X, S0, E, e, x, h => by
    unfold okE at h
    split at h
    · obtain ⟨M, hd, h1, h2⟩ := lamB_ok x h
      obtain ⟨c, P, a1, a2, a3, a4⟩ := x.tab h1 h2
      exact de_lambda a1 a2 a3 a4 hd M
    · cases h
  | .value o, K, X, S0, E, e, x, h => by
    unfold okE at h
    split at h
    · simp only [Bool.and_eq_true, beq_iff_eq] at h
      obtain ⟨⟨rfl, h1⟩, h2⟩ := h
      exact de_value x.XO (sndE o x h2) (notSup_ok h1)
    · cases h
  | .rng isT es, K, X, S0, E, e, x, h => by
    unfold okE at h
    split at h
    · cases isT with
      | true =>
        simp only [Bool.and_eq_true, beq_iff_eq, if_true] at h
        obtain ⟨⟨⟨⟨⟨⟨rfl, rfl⟩, h1⟩, h2⟩, h3⟩, h4⟩, h5⟩ := h
        exact de_trange (p2 := ⟨0, 0, 0, 0⟩) x.calm (x.gl h1) (x.T _ _ (isBty_ok h3)).2.1 (x.gl h2) (x.T _ _ (isBty_ok h4)).2.1 (sndEs es x h5) (okEs_star h5)
      | false =>
        simp only [Bool.and_eq_true, beq_iff_eq, if_false, Bool.false_eq_true] at h
        obtain ⟨⟨⟨⟨⟨⟨rfl, rfl⟩, h1⟩, h2⟩, h3⟩, h4⟩, h5⟩ := h
        exact de_lrange (p2 := ⟨0, 0, 0, 0⟩) x.calm (x.gl h1) (x.T _ _ (isBty_ok h3)).2.1 (x.gl h2) (x.T _ _ (isBty_ok h4)).2.1 (sndEs es x h5) (okEs_star h5)
    · cases h
  | .lc tg it ifs elt own, K, X, S0, E, e, x, h => by
    unfold okE at h
    split at h
    · rename_i el g scope pos
      obtain ⟨gt, gi, gf, ga⟩ := g
      simp only [Bool.and_eq_true, beq_iff_eq] at h
      obtain ⟨⟨⟨⟨⟨⟨⟨rfl, h1⟩, h2⟩, h3⟩, h4⟩, h5⟩, h6⟩, h7⟩ := h
      have bo := blkB_ok h1
      rw [← x.hN, ← x.sc] at bo
      have kd := bo.kind
      exact de_lc x.calm x.nodup (sndI it x h2) bo (puts_ok h4) (fun s H S1 L cl fp => sndT tg (x.blk kd s H S1 L cl fp) h5) (fun s H S1 L cl fp => sndBo ifs (x.blk kd s H S1 L cl fp) h6) (fun s H S1 L cl fp => sndE elt (x.blk kd s H S1 L cl fp) h7) (notSet_it h3)
    · cases h
theorem sndEs : ∀ (c : CEs) {K : Sk} {X : Cx} {S0 : DS} {E : EX} {es : List Expr}, SX G Γ C K k X S0 E → okEs C c K es = true → DA G X S0 es (wpEs G Γ c (errTo E S0))
  | .nil, K, X, S0, E, es, x, h => by
    unfold okEs at h
    cases List.isEmpty_iff.mp h
    exact da_nil
  | .cons a r, K, X, S0, E, es, x, h => by
    unfold okEs at h
    split at h
    · simp only [Bool.and_eq_true, Bool.not_eq_true'] at h
      exact da_cons (sndE a x h.1.2) (sndEs r x h.2) (star_cons h.1.1)
    · cases h
theorem sndX : ∀ (c : CSt) {K : Sk} {X : Cx} {S0 : DS} {E : EX} {es : List Expr}, SX G Γ C K k X S0 E → okX C c K es = true → DA G X S0 es (wpX G Γ c (errTo E S0))
  | .nil, K, X, S0, E, es, x, h => by
    unfold okX at h
    cases List.isEmpty_iff.mp h
    exact da_nil
  | .cons s a r, K, X, S0, E, es, x, h => by
    unfold okX at h
    split at h
    · rename_i y ys
      simp only [Bool.and_eq_true] at h
      obtain ⟨h1, h2⟩ := h
      cases s with
      | true =>
        simp only [if_true] at h1
        split at h1
        · exact da_star (sndE a x h1) (sndX r x h2)
        · cases h1
      | false =>
        simp only [Bool.false_eq_true, if_false, Bool.and_eq_true, Bool.not_eq_true'] at h1
        exact da_cons (sndE a x h1.2) (sndX r x h2) (star_cons h1.1)
    · cases h
theorem sndK : ∀ (c : CEs) {K : Sk} {X : Cx} {S0 : DS} {E : EX} {es : List Keyword}, SX G Γ C K k X S0 E → okK C c K es = true → DKw G X S0 es (wpEs G Γ c (errTo E S0))
  | .nil, K, X, S0, E, es, x, h => by
    unfold okK at h
    cases List.isEmpty_iff.mp h
    exact dk_nil
  | .cons a r, K, X, S0, E, es, x, h => by
    unfold okK at h
    split at h
    · rename_i kw kws
      obtain ⟨n, e, p⟩ := kw
      simp only [Bool.and_eq_true] at h
      exact dk_cons (sndE a x h.1) (sndK r x h.2)
    · cases h
theorem sndD : ∀ (c : CEs) {K : Sk} {X : Cx} {S0 : DS} {E : EX} {ks : List (Option Expr)} {vs : List Expr}, SX G Γ C K k X S0 E → okD C c K ks vs = true → (∀ pos, DPs G X S0 pos ks vs (wpEs G Γ c (errTo E S0))) ∧ ks.length = vs.length ∧ ks.all (·.isSome) = true
  | .nil, K, X, S0, E, ks, vs, x, h => by
    unfold okD at h
    simp only [Bool.and_eq_true, List.isEmpty_iff] at h
    obtain ⟨rfl, rfl⟩ := h
    exact ⟨fun pos => dps_nil, rfl, rfl⟩
  | .cons a r, K, X, S0, E, ks, vs, x, h => by
    unfold okD at h
    split at h
    · rename_i kk ks
      simp only [Bool.and_eq_true] at h
      obtain ⟨h1, h2, h3⟩ := sndDv r x h.2 kk _ (sndE a x h.1)
      exact ⟨h1, h2, by rw [List.all_cons, h3]; rfl⟩
    · cases h
theorem sndDv : ∀ (c : CEs) {K : Sk} {X : Cx} {S0 : DS} {E : EX} {ks : List (Option Expr)} {vs : List Expr}, SX G Γ C K k X S0 E → okDv C c K ks vs = true → ∀ (e : Expr) (te : DT), DE G X S0 e te → (∀ pos, DPs G X S0 pos (some e :: ks) vs (fun ρ S Q => te ρ S fun d S1 => wpEs G Γ c (errTo E S0) ρ S1 fun ds S2 => Q (d :: ds) S2)) ∧ ks.length + 1 = vs.length ∧ ks.all (·.isSome) = true
  | .nil, K, X, S0, E, ks, vs, x, h, e, te, he => absurd h Bool.false_ne_true
  | .cons a r, K, X, S0, E, ks, vs, x, h, e, te, he => by
    unfold okDv at h
    split at h
    · simp only [Bool.and_eq_true] at h
      obtain ⟨h1, h2, h3⟩ := sndD r x h.2
      exact ⟨fun pos => dps_cons he (sndE a x h.1) (h1 pos), by rw [h2]; rfl, h3⟩
    · cases h
theorem sndEn : ∀ (op : BoolOp) (c : CEn) {K : Sk} {X : Cx} {S0 : DS} {E : EX} {es : List Expr} {pos : Pos}, SX G Γ C K k X S0 E → okEn C c K es = true → DE G X S0 (.BoolOp op es pos) (wpEn G Γ op c (errTo E S0))
  | op, .one a, K, X, S0, E, es, pos, x, h => by
    unfold okEn at h
    split at h
    · exact de_one (sndE a x h)
    · cases h
  | op, .more a r, K, X, S0, E, es, pos, x, h => by
    unfold okEn at h
    split at h
    · simp only [Bool.and_eq_true] at h
      cases op with
      | And => exact de_and (ta := wpE G Γ a (errTo E S0)) (tb := wpEn G Γ .And r (errTo E S0)) (sndE a x h.1) (sndEn .And r x h.2)
      | Or => exact de_or (ta := wpE G Γ a (errTo E S0)) (tb := wpEn G Γ .Or r (errTo E S0)) (sndE a x h.1) (sndEn .Or r x h.2)
    · cases h
theorem sndO : ∀ (c : CEo) {K : Sk} {X : Cx} {S0 : DS} {E : EX} {es : Option Expr}, SX G Γ C K k X S0 E → okO C c K es = true → DPo G X S0 es (wpO G Γ c (errTo E S0))
  | .none, K, X, S0, E, es, x, h => by
    unfold okO at h
    cases es with
    | none => exact dpo_none
    | some e => cases h
  | .some a, K, X, S0, E, es, x, h => by
    unfold okO at h
    split at h
    · exact dpo_some (sndE a x h)
    · cases h
theorem sndCh : ∀ (c : CCh) {K : Sk} {X : Cx} {S0 : DS} {E : EX} {ops : List CmpOp} {es : List Expr}, SX G Γ C K k X S0 E → okCh C c K ops es = true → DCh G X S0 ops es (wpCh G Γ c (errTo E S0))
  | .last op b, K, X, S0, E, ops, es, x, h => by
    unfold okCh at h
    split at h
    · simp only [Bool.and_eq_true, beq_iff_eq] at h
      obtain ⟨rfl, h⟩ := h
      exact dch_last x.un (sndE b x h)
    · cases h
  | .link op b r, K, X, S0, E, ops, es, x, h => by
    unfold okCh at h
    split at h
    · simp only [Bool.and_eq_true, beq_iff_eq] at h
      obtain ⟨⟨rfl, h1⟩, h2⟩ := h
      exact dch_link (tb := wpE G Γ b (errTo E S0)) (t := wpCh G Γ r (errTo E S0)) x.un (sndE b x h1) (sndCh r x h2)
    · cases h
theorem sndB : ∀ (c : CB) {K : Sk} {X : Cx} {S0 : DS} {E : EX} {e : Expr}, SX G Γ C K k X S0 E → okB C c K e = true → DTe G X S0 e (wpB G Γ c (errTo E S0))
  | .v a, K, X, S0, E, e, x, h => by
    unfold okB at h
    rw [Bool.and_eq_true] at h
    exact dt_val (sndE a x h.2) (plainT_ok h.1)
  | .cmp op a b, K, X, S0, E, e, x, h => by
    unfold okB at h
    split at h
    · simp only [Bool.and_eq_true, beq_iff_eq] at h
      obtain ⟨⟨⟨rfl, h1⟩, h2⟩, h3⟩ := h
      refine ⟨fun pins s σ H ρ S Q I R q => (dt_cmp x.un (sndE a x h1) (sndE b x h2) (notSet_mk h3)).run pins s σ H ρ S Q I R ?_⟩
      exact q
    · cases h
  | .chain a r, K, X, S0, E, e, x, h => by
    unfold okB at h
    split at h
    · simp only [Bool.and_eq_true] at h
      refine ⟨fun pins s σ H ρ S Q I R q => (dt_chain (ta := wpE G Γ a (errTo E S0)) (t := wpCh G Γ r (errTo E S0)) (sndE a x h.1.2) (sndCh r x h.2) (noMarks_ok h.1.1)).run pins s σ H ρ S Q I R ?_⟩
      exact q
    · cases h
  | .nt b, K, X, S0, E, e, x, h => by
    unfold okB at h
    split at h
    · exact dt_not (sndB b x h)
    · cases h
  | .bo op bs, K, X, S0, E, e, x, h => by
    unfold okB at h
    split at h
    · simp only [Bool.and_eq_true, beq_iff_eq] at h
      obtain ⟨rfl, h⟩ := h
      exact (sndBs _ bs x h).te
    · cases h
theorem sndBs : ∀ (op : BoolOp) (c : CBs) {K : Sk} {X : Cx} {S0 : DS} {E : EX} {es : List Expr} {pos : Pos}, SX G Γ C K k X S0 E → okBs C c K es = true → DWe G X S0 (.BoolOp op es pos) (wpBs G Γ op c (errTo E S0))
  | op, .one a, K, X, S0, E, es, pos, x, h => by
    unfold okBs at h
    split at h
    · cases op with
      | And => exact dw_and1 (sndB a x h)
      | Or => exact dw_or1 (sndB a x h)
    · cases h
  | op, .more a r, K, X, S0, E, es, pos, x, h => by
    unfold okBs at h
    split at h
    · simp only [Bool.and_eq_true] at h
      cases op with
      | And => exact dw_and (tA := wpB G Γ a (errTo E S0)) (tB' := wpBs G Γ .And r (errTo E S0)) (sndB a x h.1) (sndBs .And r x h.2)
      | Or => exact dw_or (tA := wpB G Γ a (errTo E S0)) (tB' := wpBs G Γ .Or r (errTo E S0)) (sndB a x h.1) (sndBs .Or r x h.2)
    · cases h
theorem sndBo : ∀ (c : CBo) {K : Sk} {X : Cx} {S0 : DS} {E : EX} {es : List Expr}, SX G Γ C K k X S0 E → okBo C c K es = true → DTes G X S0 es (wpBo G Γ c (errTo E S0))
  | .none, K, X, S0, E, es, x, h => by
    unfold okBo at h
    cases List.isEmpty_iff.mp h
    exact dts_nil
  | .some b, K, X, S0, E, es, x, h => by
    unfold okBo at h
    split at h
    · exact dts_one (sndB b x h)
    · cases h
theorem sndI : ∀ (c : CI) {K : Sk} {X : Cx} {S0 : DS} {E : EX} {tg e : Expr}, SX G Γ C K k X S0 E → okI C c K e = true → DIt G X S0 tg e (wpI G Γ c (errTo E S0))
  | .val a, K, X, S0, E, tg, e, x, h => by
    unfold okI at h
    exact di_val (sndE a x h)
  | .rng es, K, X, S0, E, tg, e, x, h => by
    unfold okI at h
    split at h
    · simp only [Bool.and_eq_true, beq_iff_eq] at h
      obtain ⟨⟨⟨rfl, h1⟩, h2⟩, h3⟩ := h
      exact di_range (x.gl h1) (x.T _ _ (isBty_ok h2)).2.1 (sndEs es x h3) (okEs_star h3)
    · cases h
theorem sndT : ∀ (c : CT) {K : Sk} {X : Cx} {S0 : DS} {E : EX} {e : Expr}, SX G Γ C K k X S0 E → okT C c K e = true → DTg G X S0 e (wpT G Γ c (errTo E S0))
  | .name i c, K, X, S0, E, e, x, h => by
    unfold okT at h
    split at h
    · simp only [Bool.and_eq_true, Bool.or_eq_true, beq_iff_eq] at h
      obtain ⟨⟨⟨h1, h2⟩, h3⟩, h4⟩ := h
      have z := dg_name (G := G) (S0 := S0) (pos := (by assumption)) x.nodup (x.at h1) (by rw [x.sc]; exact locB_ok h2) (h3.imp (x.fn _) fun q => by rw [x.sc]; exact loB_ok q)
      rw [← x.cap, h4] at z
      exact z
    · cases h
  | .tup ts, K, X, S0, E, e, x, h => by
    unfold okT at h
    split at h
    · refine (dg_tup x.calm (sndTs ts x h) (okTs_star h)).imp fun d ρ S Q q => ?_
      cases d with
      | tup ds => exact ⟨by rw [okTs_len h]; exact q.1, q.2⟩
      | _ => exact (show False from q).elim
    · cases h
  | .sub o i, K, X, S0, E, e, x, h => by
    unfold okT at h
    split at h
    · simp only [Bool.and_eq_true] at h
      exact dg_sub (sndE o x h.1.1) (sndE i x h.1.2) (notSl_ne h.2)
    · cases h
theorem sndTs : ∀ (c : CTs) {K : Sk} {X : Cx} {S0 : DS} {E : EX} {es : List Expr}, SX G Γ C K k X S0 E → okTs C c K es = true → DTgs G X S0 es (wpTs G Γ c (errTo E S0))
  | .nil, K, X, S0, E, es, x, h => by
    unfold okTs at h
    cases List.isEmpty_iff.mp h
    exact dgs_nil
  | .cons t r, K, X, S0, E, es, x, h => by
    unfold okTs at h
    split at h
    · simp only [Bool.and_eq_true, Bool.not_eq_true'] at h
      refine (dgs_cons (sndT t x h.1.2) (sndTs r x h.2) h.1.1).imp fun ds ρ S Q q => ?_
      cases ds with
      | nil => exact (show False from q).elim
      | cons d ds => exact q
    · cases h
end
end
end DL

namespace DL
open PySem PySem.Spec PyProof.Rows L2

/-- e is a comprehension that takes the place of the name t -/
def swB (sc : Scope) (e t : Expr) : Bool := match e, t with
  | .ListComp _ _ s p, .Name y py => loB sc y && py.line == p.line && !(s.names.any fun z => z.1 == y && (z.2 == .local || z.2 == .cell))
  | .DictComp _ _ _ s p, .Name y py => loB sc y && py.line == p.line && !(s.names.any fun z => z.1 == y && (z.2 == .local || z.2 == .cell))
  | .SetComp .., _ => true
  | _, _ => false
theorem blockKind_fn {env : Env} (h : env.scope.kind = .function) : (env.blockKind == .function) = true := by
  unfold Env.blockKind
  rw [h]; rfl
theorem loB_eq {env : Env} {y : Str} : (env.kindOf y == some NameKind.local) = loB env.scope y := by
  unfold Env.kindOf loB
  cases e : env.scope.names.lookup y with
  | none => rfl
  | some k => cases k <;> rfl
theorem swB_ok {env : Env} {e t : Expr} {line : Nat} (hk : env.scope.kind = .function) (h : swB env.scope e t = false) : swapsWithSole [t] e line env = pure false := by
  cases e with
  | ListComp a g s p =>
    cases t with
    | Name y py =>
      show (pure (env.blockKind == .function && env.kindOf y == some .local && py.line == p.line && !(s.names.any fun (n, k) => n == y && (k == .local || k == .cell))) : Sem Bool) = pure false
      rw [blockKind_fn hk, loB_eq, Bool.true_and]
      exact congrArg pure h
    | _ => rfl
  | DictComp a b g s p =>
    cases t with
    | Name y py =>
      show (pure (env.blockKind == .function && env.kindOf y == some .local && py.line == p.line && !(s.names.any fun (n, k) => n == y && (k == .local || k == .cell))) : Sem Bool) = pure false
      rw [blockKind_fn hk, loB_eq, Bool.true_and]
      exact congrArg pure h
    | _ => rfl
  | SetComp a g s p => cases h
  | _ => rfl
theorem swB_tt {env : Env} {y : Str} {py : Pos} {elt : Expr} {gs : List Comprehension} {scope : Scope} {p : Pos} {line : Nat} (hk : env.scope.kind = .function) (h : swB env.scope (.ListComp elt gs scope p) (.Name y py) = true) :
    swapsWith (.ListComp elt gs scope p) (some (.Name y py)) line env = pure true := by
  show (pure (env.blockKind == .function && env.kindOf y == some .local && py.line == p.line && !(scope.names.any fun (n, k) => n == y && (k == .local || k == .cell))) : Sem Bool) = pure true
  rw [blockKind_fn hk, loB_eq, Bool.true_and]
  exact congrArg pure h
/-- no stores from the right -/
def noSwp (t e : Expr) : Bool := match t, e with
  | .Tuple ts _ _, .Tuple vs _ _ => !(ts.length == 2 || ts.length == 3) || vs.all (foldedForSure 8) || ts.any fun | .Name _ _ => false | _ => true
  | .List _ _, _ => false
  | _, _ => true
theorem fm_lt {α β : Type} {f : α → Option β} : ∀ {l : List α}, (l.any fun a => (f a).isNone) = true → (l.filterMap f).length < l.length
  | a :: l, h => by
    rw [List.any_cons, Bool.or_eq_true] at h
    rw [List.filterMap_cons]
    cases e : f a with
    | none =>
      simp only [List.length_cons]
      exact Nat.lt_succ_of_le (List.length_filterMap_le _ _)
    | some b =>
      rcases h with h | h
      · rw [e] at h; cases h
      · simp only [List.length_cons]
        exact Nat.succ_lt_succ (fm_lt h)
theorem noSwp_ok {env : Env} {t e : Expr} (h : noSwp t e = true) : swappedStores [t] e env = pure none := by
  cases t with
  | Tuple ts k p =>
    cases e with
    | Tuple vs l q =>
      have h : (!(ts.length == 2 || ts.length == 3) || vs.all (foldedForSure 8) || ts.any fun | .Name _ _ => false | _ => true) = true := h
      unfold swappedStores
      simp only [pure_bind]
      split
      · rfl
      · rename_i n1
        split
        · rfl
        · split
          · rfl
          · rename_i n3
            rw [Bool.or_eq_true, Bool.or_eq_true] at h
            rcases h with (h | h) | h
            · exact absurd (by rw [h]; rfl) n1
            · rw [if_pos h]
            · exfalso
              refine n3 ?_
              rw [Bool.or_eq_true]
              refine .inl (bne_iff_ne.mpr (Nat.ne_of_lt (fm_lt ?_)))
              rw [List.any_eq_true] at h ⊢
              obtain ⟨a, ha, hq⟩ := h
              refine ⟨a, ha, ?_⟩
              cases a <;> first | rfl | cases hq
    | _ => rfl
  | List ts p => cases h
  | _ => rfl
/-- or a name is none of the frame's own -/
def noSwpK (sc : Scope) (t e : Expr) : Bool := noSwp t e || (match t with
  | .Tuple ts _ _ => ts.any fun | .Name x _ => !loB sc x | _ => true
  | _ => false)
theorem noSwpK_ok {env : Env} {t e : Expr} (h : noSwpK env.scope t e = true) : swappedStores [t] e env = pure none := by
  unfold noSwpK at h
  rw [Bool.or_eq_true] at h
  rcases h with h | h
  · exact noSwp_ok h
  · cases t with
    | Tuple ts k p =>
      cases e with
      | Tuple vs l q =>
        unfold swappedStores
        simp only [pure_bind]
        split
        · rfl
        · split
          · rfl
          · split
            · rfl
            · rename_i n3
              exfalso
              refine n3 ?_
              rw [Bool.or_eq_true]
              refine .inl (bne_iff_ne.mpr (Nat.ne_of_lt (fm_lt ?_)))
              have h : (ts.any fun | .Name x _ => !loB env.scope x | _ => true) = true := h
              rw [List.any_eq_true] at h ⊢
              obtain ⟨a, ha, hq⟩ := h
              refine ⟨a, ha, ?_⟩
              cases a with
              | Name x px =>
                have hq : (!loB env.scope x) = true := hq
                rw [← loB_eq] at hq
                have hq : (env.kindOf x == some NameKind.local) = false := by simpa using hq
                simp [hq]
              | _ => rfl
      | _ => rfl
    | _ => cases h
/-- names stored from the right -/
def swp2 (sc : Scope) (x y : Str) (px py : Pos) (a b : Expr) : Bool :=
  loB sc x && loB sc y && py.line == px.line && !(x == y) && !isStar a && !isStar b && ![a, b].all (foldedForSure 8) && ![a, b].all (constantsAlone 8)
def swp3 (sc : Scope) (x y z : Str) (px py pz : Pos) (a b c : Expr) : Bool :=
  loB sc x && loB sc y && loB sc z && py.line == px.line && pz.line == px.line && !(x == y) && !(x == z) && !(y == z) && !isStar a && !isStar b && !isStar c && ![a, b, c].all (foldedForSure 8) && ![a, b, c].all (constantsAlone 8)
theorem star_any : ∀ {vs : List Expr}, vs.all (fun e => !isStar e) = true → (vs.any fun | .Starred .. => true | _ => false) = false
  | [], _ => rfl
  | v :: vs, h => by
    rw [List.all_cons, Bool.and_eq_true] at h
    rw [List.any_cons, star_any h.2, Bool.or_false]
    cases v <;> first | rfl | exact absurd h.1 Bool.false_ne_true
theorem swp2_ok {env : Env} {x y : Str} {px py p q : Pos} {a b : Expr} {k l : Nat} (hk : env.scope.kind = .function) (h : swp2 env.scope x y px py a b = true) :
    swappedStores [.Tuple [.Name x px, .Name y py] k p] (.Tuple [a, b] l q) env = pure (some [x, y]) := by
  unfold swp2 at h
  simp only [Bool.and_eq_true, Bool.not_eq_true'] at h
  obtain ⟨⟨⟨⟨⟨⟨⟨h1, h2⟩, h3⟩, h4⟩, h5⟩, h6⟩, h7⟩, h8⟩ := h
  have s := star_any (vs := [a, b]) (by simp [h5, h6])
  unfold swappedStores
  simp only [pure_bind]
  rw [if_neg (by simp [bne, blockKind_fn hk])]
  refine (if_neg ?_).trans ?_
  · intro q; exact Bool.false_ne_true (s.symm.trans q)
  have d : ([x, y].eraseDups).length = 2 := by
    have e : (y == x) = false := by
      have : ¬ x = y := by simpa using h4
      simpa using fun e => this e.symm
    simp [List.eraseDups_cons, e]
  simp only [List.filterMap_cons, List.filterMap_nil, List.head?_cons, Option.map_some, Option.getD_some, show (Expr.Name x px).pos = px from rfl, loB_eq, h1, h2, h3, h7, h8, beq_self_eq_true, Bool.and_self, if_true, d]
  rfl
theorem swp3_ok {env : Env} {x y z : Str} {px py pz p q : Pos} {a b c : Expr} {k l : Nat} (hk : env.scope.kind = .function) (h : swp3 env.scope x y z px py pz a b c = true) :
    swappedStores [.Tuple [.Name x px, .Name y py, .Name z pz] k p] (.Tuple [a, b, c] l q) env = pure (some [x, y, z]) := by
  unfold swp3 at h
  simp only [Bool.and_eq_true, Bool.not_eq_true'] at h
  obtain ⟨⟨⟨⟨⟨⟨⟨⟨⟨⟨⟨⟨h1, h2⟩, h3⟩, h4⟩, h5⟩, h6⟩, h7⟩, h8⟩, h9⟩, h10⟩, h11⟩, h12⟩, h13⟩ := h
  have s := star_any (vs := [a, b, c]) (by simp [h9, h10, h11])
  unfold swappedStores
  simp only [pure_bind]
  rw [if_neg (by simp [bne, blockKind_fn hk])]
  refine (if_neg ?_).trans ?_
  · intro q; exact Bool.false_ne_true (s.symm.trans q)
  have ne : ∀ {u v : Str}, (u == v) = false → (v == u) = false := fun {u v} h => by
    have : ¬ u = v := by simpa using h
    simpa using fun e => this e.symm
  have d : ([x, y, z].eraseDups).length = 3 := by
    simp [List.eraseDups_cons, ne h6, ne h7, ne h8]
  simp only [List.filterMap_cons, List.filterMap_nil, List.head?_cons, Option.map_some, Option.getD_some, show (Expr.Name x px).pos = px from rfl, loB_eq, h1, h2, h3, h4, h5, h12, h13, beq_self_eq_true, Bool.and_self, if_true, d]
  rfl
end DL

namespace DL
open PySem PySem.Spec PyProof.Rows L2
section
variable (C : Cs)
mutual
def okS : CS → Sk → Stmt → Bool
  | .expr a, K, s => (match s with | .Expr e _ => !isComp e && okE C a K e | _ => false)
  | .asg t a, K, s => (match s with | .Assign [tg] e _ => okT C t K tg && okE C a K e && !swB K.sc e tg && noSwpK K.sc tg e && !isStar tg | _ => false)
  | .setLc i c tg it ifs elt own, K, s => (match s with
    | .Assign [.Name y py] (.ListComp x [g] scope p) _ => swB K.sc (.ListComp x [g] scope p) (.Name y py) && loB K.sc y && nmI C.N i y && capL C.L y == c &&
        g.is_async == 0 && blkB C.N K.sc scope own && okI C it K g.iter && notSet g.iter && ctIn (own.map (·.2)) tg && okT C tg (K.in scope) g.target && okBo C ifs (K.in scope) g.ifs && okE C elt (K.in scope) x
    | _ => false)
  | .par2 i j ci cj a b, K, s => (match s with
    | .Assign [.Tuple [.Name x px, .Name y py] _ _] (.Tuple [u, v] _ _) _ => nmI C.N i x && nmI C.N j y && capL C.L x == ci && capL C.L y == cj && swp2 K.sc x y px py u v && okE C a K u && okE C b K v
    | _ => false)
  | .par3 i j l ci cj cl a b d, K, s => (match s with
    | .Assign [.Tuple [.Name x px, .Name y py, .Name z pz] _ _] (.Tuple [u, v, w] _ _) _ => nmI C.N i x && nmI C.N j y && nmI C.N l z && capL C.L x == ci && capL C.L y == cj && capL C.L z == cl && swp3 K.sc x y z px py pz u v w && okE C a K u && okE C b K v && okE C d K w
    | _ => false)
  | .aug i c op a, K, s => (match s with | .AugAssign (.Name x _) o e _ => nmI C.N i x && locB K.sc x && (K.fn x || loB K.sc x) && capL C.L x == c && o == op && okE C a K e | _ => false)
  | .ite c a b, K, s => (match s with | .If t x y _ => okB C c K t && okSs a K x && okSs b K y | _ => false)
  | .for_ t it body, K, s => (match s with | .For tg iter bd [] _ => okT C t K tg && okI C it K iter && okSs body K bd && notSet iter | _ => false)
  | .while_ c body, K, s => (match s with | .While t bd [] _ => okB C c K t && okSs body K bd | _ => false)
  | .ret a, K, s => (match s with | .Return (some e) _ => okE C a K e | _ => false)
  | .retN, _, s => (match s with | .Return none _ => true | _ => false)
  | .raise x a, K, s => (match s with | .Raise (some (.Call (.Name y _) [e] [] _)) none _ => y == x && isExc C y && glB K.sc y && okE C a K e && !isStar e | _ => false)
  | .pass, _, s => (match s with | .Pass _ => true | _ => false)
  | .brk, _, s => (match s with | .Break _ => true | _ => false)
  | .cont, _, s => (match s with | .Continue _ => true | _ => false)
  | .heard ic ig ie ik x, K, s => (match s with
    | .Try [.Assign [.Name yg _] (.Call (.Name yk _) [] [] _) _] [.ExceptHandler (some (.Name y _)) (some ye) [.Assign [.Name yc _] (.Name ye' _) _] _] [] [] _ =>
      ye' == ye && y == x && glB K.sc y && isCls C y && nmI C.N ik yk && visB K.sc yk && nmI C.N ig yg && loB K.sc yg && !capL C.L yg && nmI C.N ie ye && loB K.sc ye && !capL C.L ye && nmI C.N ic yc && loB K.sc yc && !capL C.L yc && ie != ic
    | _ => false)
def okSs : CSs → Sk → List Stmt → Bool
  | .nil, _, ss => ss.isEmpty
  | .cons a r, K, ss => (match ss with | s :: ss => okS a K s && okSs r K ss | [] => false)
end
end
/-- a def's body runs -/
structure SY (G : GS) (Γ : Ga) (C : Cs) (K : Sk) (k : Nat) (X : Cx) (S0 : DS) (E : EX) : Prop where
  x : SX G Γ C K k X S0 E
  pw : PassesOwn (model X.prog X.w) X.A X.env X.xe
  stk : X.stack = X.env :: X.outer
  frm : X.env.frame = some X.env.locals
  ex : X.ex = []
theorem SX.clsOk {G : GS} {Γ : Ga} {C : Cs} {K : Sk} {k : Nat} {X : Cx} {S0 : DS} {E : EX} (x : SX G Γ C K k X S0 E) {n : Str} (h : isCls C n = true) : (n == ("__debug__" : Str)) = false ∧ X.mg n = some (.ref (G.cl n)) := by
  rcases isCls_ok h with q | q
  · obtain ⟨d1, d2⟩ := x.T _ _ q
    exact ⟨d1, d2⟩
  · obtain ⟨d1, d2, _⟩ := x.T _ _ q
    exact ⟨d1, d2⟩
section
variable {G : GS} {Γ : Ga} {C : Cs} {k : Nat}
mutual
theorem sndS : ∀ (c : CS) {K : Sk} {X : Cx} {S0 : DS} {E : EX} {s : Stmt}, SY G Γ C K k X S0 E → okS C c K s = true → DSt G X S0 s (wpS G Γ c (errTo E S0))
  | .expr a, K, X, S0, E, s, y, h => by
    unfold okS at h
    split at h
    · simp only [Bool.and_eq_true, Bool.not_eq_true'] at h
      exact ds_expr (sndE a y.x h.2) h.1
    · cases h
  | .asg t a, K, X, S0, E, s, y, h => by
    unfold okS at h
    split at h
    · simp only [Bool.and_eq_true, Bool.not_eq_true'] at h
      obtain ⟨⟨⟨⟨h1, h2⟩, h3⟩, h4⟩, h5⟩ := h
      rw [← y.x.sc] at h3
      exact ds_asg (sndE a y.x h2) (sndT t y.x h1) (swB_ok (by rw [y.x.sc]; exact y.x.kind) h3) (noSwpK_ok (by rw [y.x.sc]; exact h4)) h5
    · cases h
  | .setLc i c tg it ifs elt own, K, X, S0, E, s, y, h => by
    unfold okS at h
    split at h
    · rename_i nm py el g scope p pos
      obtain ⟨gt, gi, gf, ga⟩ := g
      simp only [Bool.and_eq_true, beq_iff_eq] at h
      obtain ⟨⟨⟨⟨⟨⟨⟨⟨⟨⟨⟨h0, hl⟩, hi⟩, hc⟩, rfl⟩, h1⟩, h2⟩, h3⟩, h4⟩, h5⟩, h6⟩, h7⟩ := h
      have x := y.x
      have bo := blkB_ok h1
      rw [← x.hN, ← x.sc] at bo
      have kd := bo.kind
      rw [← x.sc] at h0
      have z := ds_setLc (spos := pos) (g := wpT G Γ tg noE) (tt := wpBo G Γ ifs noE) (te := wpE G Γ elt noE) x.calm x.nodup (x.at hi) (by rw [x.sc]; exact loB_ok hl) (swB_tt (by rw [x.sc]; exact x.kind) h0) (sndI it x h2) bo (puts_ok h4) (fun s H S1 L cl fp => sndT tg (x.blk kd s H S1 L cl fp) h5) (fun s H S1 L cl fp => sndBo ifs (x.blk kd s H S1 L cl fp) h6) (fun s H S1 L cl fp => sndE elt (x.blk kd s H S1 L cl fp) h7) (notSet_it h3)
      rw [← x.cap, hc] at z
      exact z
    · cases h
  | .par2 i j ci cj a b, K, X, S0, E, s, y, h => by
    unfold okS at h
    split at h
    · rename_i nx px ny py kt pt u v k2 pt2 pos
      simp only [Bool.and_eq_true, beq_iff_eq] at h
      obtain ⟨⟨⟨⟨⟨⟨h1, h2⟩, h3⟩, h4⟩, h5⟩, h6⟩, h7⟩ := h
      have x := y.x
      have hs := h5
      unfold swp2 at hs
      simp only [Bool.and_eq_true, Bool.not_eq_true'] at hs
      have da : DA G X S0 [u, v] (wpEs G Γ (.cons a (.cons b .nil)) (errTo E S0)) := sndEs _ x (by simp only [okEs, hs.1.1.2, hs.1.1.1.2, h6, h7]; rfl)
      rw [← x.sc] at h5
      have z := ds_par2 (pos := pos) (kt := kt) (pt := pt) (k2 := k2) (pt2 := pt2) x.calm x.nodup (x.at h1) (x.at h2) (by rw [x.sc]; exact loB_ok hs.1.1.1.1.1.1.1) (by rw [x.sc]; exact loB_ok hs.1.1.1.1.1.1.2) da (swp2_ok (by rw [x.sc]; exact x.kind) h5) rfl
      rw [← x.cap, h3, ← x.cap, h4] at z
      exact z
    · cases h
  | .par3 i j l ci cj cl a b d, K, X, S0, E, s, y, h => by
    unfold okS at h
    split at h
    · rename_i nx px ny py nz pz kt pt u v w k2 pt2 pos
      simp only [Bool.and_eq_true, beq_iff_eq] at h
      obtain ⟨⟨⟨⟨⟨⟨⟨⟨⟨h1, h2⟩, h2'⟩, h3⟩, h4⟩, h4'⟩, h5⟩, h6⟩, h7⟩, h8⟩ := h
      have x := y.x
      have hs := h5
      unfold swp3 at hs
      simp only [Bool.and_eq_true, Bool.not_eq_true'] at hs
      obtain ⟨⟨⟨⟨⟨⟨⟨⟨⟨⟨⟨⟨a1, a2⟩, a3⟩, _⟩, _⟩, _⟩, _⟩, _⟩, b1⟩, b2⟩, b3⟩, _⟩, _⟩ := hs
      have da : DA G X S0 [u, v, w] (wpEs G Γ (.cons a (.cons b (.cons d .nil))) (errTo E S0)) := sndEs _ x (by simp only [okEs, b1, b2, b3, h6, h7, h8]; rfl)
      rw [← x.sc] at h5
      have z := ds_par3 (pos := pos) (kt := kt) (pt := pt) (k2 := k2) (pt2 := pt2) x.calm x.nodup (x.at h1) (x.at h2) (x.at h2') (by rw [x.sc]; exact loB_ok a1) (by rw [x.sc]; exact loB_ok a2) (by rw [x.sc]; exact loB_ok a3) da (swp3_ok (by rw [x.sc]; exact x.kind) h5) rfl
      rw [← x.cap, h3, ← x.cap, h4, ← x.cap, h4'] at z
      exact z
    · cases h
  | .aug i c op a, K, X, S0, E, s, y, h => by
    unfold okS at h
    split at h
    · rename_i nx px o e pos
      simp only [Bool.and_eq_true, Bool.or_eq_true, beq_iff_eq] at h
      obtain ⟨⟨⟨⟨⟨h1, h2⟩, h3⟩, h4⟩, rfl⟩, h6⟩ := h
      have x := y.x
      have z := ds_aug (pos := pos) (pos' := px) (op := o) x.nodup (x.at h1) (by rw [x.sc]; exact locB_ok h2) (sndE a x h6) (h3.imp (x.fn _) fun q => by rw [x.sc]; exact loB_ok q)
      rw [← x.cap, h4] at z
      exact z
    · cases h
  | .ite c a b, K, X, S0, E, s, y, h => by
    unfold okS at h
    split at h
    · simp only [Bool.and_eq_true] at h
      exact ds_if (tc := wpB G Γ c (errTo E S0)) (t := wpSs G Γ a (errTo E S0)) (u := wpSs G Γ b (errTo E S0)) (sndB c y.x h.1.1) (sndSs a y h.1.2) (sndSs b y h.2)
    · cases h
  | .for_ t it body, K, X, S0, E, s, y, h => by
    unfold okS at h
    split at h
    · simp only [Bool.and_eq_true] at h
      exact ds_for (wi := wpI G Γ it (errTo E S0)) (g := wpT G Γ t (errTo E S0)) (tb := wpSs G Γ body (errTo E S0)) y.pw y.x.calm (sndI it y.x h.1.1.2) (sndT t y.x h.1.1.1) (sndSs body y h.1.2) (notSet_it h.2)
    · cases h
  | .while_ c body, K, X, S0, E, s, y, h => by
    unfold okS at h
    split at h
    · simp only [Bool.and_eq_true] at h
      exact ds_while (tc := wpB G Γ c (errTo E S0)) (tb := wpSs G Γ body (errTo E S0)) y.pw (sndB c y.x h.1) (sndSs body y h.2)
    · cases h
  | .ret a, K, X, S0, E, s, y, h => by
    unfold okS at h
    split at h
    · exact ds_ret (sndE a y.x h)
    · cases h
  | .retN, K, X, S0, E, s, y, h => by
    unfold okS at h
    split at h
    · exact ds_retN
    · cases h
  | .raise n a, K, X, S0, E, s, y, h => by
    unfold okS at h
    split at h
    · simp only [Bool.and_eq_true, beq_iff_eq, Bool.not_eq_true'] at h
      obtain ⟨⟨⟨⟨rfl, h1⟩, h2⟩, h3⟩, h4⟩ := h
      obtain ⟨d1, d2, F, fI, cc, T, O⟩ := y.x.T _ _ (isExc_ok h1)
      exact ds_raise y.x.calm T O d2 y.x.room y.x.tk (sndE a y.x h3) h4 (y.x.gl h2) d1
    · cases h
  | .pass, K, X, S0, E, s, y, h => by
    unfold okS at h
    split at h
    · exact ds_pass
    · cases h
  | .brk, K, X, S0, E, s, y, h => by
    unfold okS at h
    split at h
    · exact ds_brk
    · cases h
  | .cont, K, X, S0, E, s, y, h => by
    unfold okS at h
    split at h
    · exact ds_cont
    · cases h
  | .heard ic ig ie ik n, K, X, S0, E, s, y, h => by
    unfold okS at h
    split at h
    · simp only [Bool.and_eq_true, beq_iff_eq, Bool.not_eq_true', bne_iff_ne] at h
      obtain ⟨⟨⟨⟨⟨⟨⟨⟨⟨⟨⟨⟨⟨⟨⟨rfl, rfl⟩, a1⟩, a2⟩, a3⟩, a4⟩, a5⟩, a6⟩, a7⟩, a8⟩, a9⟩, b1⟩, b2⟩, b3⟩, b4⟩, b5⟩ := h
      have x := y.x
      rw [x.cap] at a7 b1 b4
      have kn : ∀ {n : Str}, loB K.sc n = true → X.env.kindOf n = some .local := fun {n} q => by
        show X.env.scope.names.lookup n = some .local
        rw [x.sc]; exact loB_ok q
      have hm := x.clsOk a2
      exact ds_heard (LC := Γ.lc) (CS := G.cl _) (sub := fun n => G.sub n _) y.stk y.frm y.ex x.nodup x.lamr x.room (x.at a3) (x.vis a4) (x.na a3).1 (x.na a3).2 (x.at a5) (kn a6) a7 (x.at a8) (kn a9) b1 (x.na a8).1 (x.na a8).2 (x.at b2) (kn b3) b4 b5 ⟨x.gl a1, hm.1, .inl hm.2⟩ (fun n hn => x.exm _ n hn)
    · cases h
theorem sndSs : ∀ (c : CSs) {K : Sk} {X : Cx} {S0 : DS} {E : EX} {ss : List Stmt}, SY G Γ C K k X S0 E → okSs C c K ss = true → DSs G X S0 ss (wpSs G Γ c (errTo E S0))
  | .nil, K, X, S0, E, ss, y, h => by
    unfold okSs at h
    cases List.isEmpty_iff.mp h
    exact dss_nil
  | .cons a r, K, X, S0, E, ss, y, h => by
    unfold okSs at h
    split at h
    · rw [Bool.and_eq_true] at h
      exact dss_cons (t := wpS G Γ a (errTo E S0)) (u := wpSs G Γ r (errTo E S0)) (sndS a y h.1) (sndSs r y h.2)
    · cases h
end
end
end DL

namespace DL
open PySem PySem.Spec PyProof.Rows L2

/-- what holds all through the program -/
structure Air (G : GS) (Γ : Ga) (T : List (Str × GI)) (P : Program) (w : World) (K : PySem.W.Frag) (mg : Str → Option Value) (base : Heap) (k : Nat) : Prop where
  T : ∀ x g, T.lookup x = some g → (x == ("__debug__" : Str)) = false ∧ GOk G Γ P w K mg base k x g
  lamr : ∀ j n D, Γ.lc j = some (n, D) → LamRun G P w K mg base k j n D
  nod : base.NoDigits
  XO : ExcsOk K G Γ.exn
  exm : ∀ x n, G.sub n x = true → PySem.W.exmOne K (.ref (G.cl n)) (.ref (G.cl x)) = some true
def nodupB : List Str → Bool
  | [] => true
  | x :: xs => !xs.contains x && nodupB xs
theorem nodupB_ok : ∀ {l : List Str}, nodupB l = true → l.Nodup
  | [], _ => List.nodup_nil
  | x :: xs, h => by
    unfold nodupB at h
    simp only [Bool.and_eq_true, Bool.not_eq_true'] at h
    refine List.nodup_cons.mpr ⟨fun m => ?_, nodupB_ok h.2⟩
    rw [List.contains_iff_mem.mpr m] at h
    exact absurd h.1 (by decide)
def namesB (N : List Str) : Bool := nodupB N && N.all fun x => !(x == ("__debug__" : Str)) && !(x == ("__classdict__" : Str))
def fnScB (N ps : List Str) (sc : Scope) : Bool :=
  sc.kind == .function && !sc.isCoroutine && !sc.isGenerator && namesB N && N.take ps.length == ps && ps.all (locB sc) && sc.names.all (fun y => !(y.2 == .free))
theorem namesB_ok {N : List Str} (h : namesB N = true) : N.Nodup ∧ ∀ x ∈ N, (x == ("__debug__" : Str)) = false ∧ (x == ("__classdict__" : Str)) = false := by
  unfold namesB at h
  simp only [Bool.and_eq_true, List.all_eq_true, Bool.not_eq_true'] at h
  exact ⟨nodupB_ok h.1, h.2⟩
theorem fnScB_ok {N ps : List Str} {sc : Scope} (h : fnScB N ps sc = true) : FnScope N ps sc ∧ ∀ x ∈ N, (x == ("__debug__" : Str)) = false ∧ (x == ("__classdict__" : Str)) = false := by
  unfold fnScB at h
  simp only [Bool.and_eq_true, List.all_eq_true, Bool.not_eq_true', beq_iff_eq] at h
  obtain ⟨⟨⟨⟨⟨⟨h1, h2⟩, h3⟩, h4⟩, h5⟩, h6⟩, h7⟩ := h
  obtain ⟨a, b⟩ := namesB_ok h4
  exact ⟨⟨h1, h2, h3, a, h5, fun x hx => locB_ok (h6 x hx), fun y hy e => by
    have := h7 y hy
    rw [e] at this; cases this⟩, b⟩
/-- a raised error, as the body's text is asked -/
abbrev eE (S0 : DS) (E : EX) : EX := errTo (fgtE S0 E) S0
/-- one check: names, scope, text -/
structure FnCk where
  C : Cs
  ps : List Str
  core : CSs
def FnCk.ok (F : FnCk) (sc : Scope) (body : List Stmt) : Bool := fnScB F.C.N F.ps sc && okSs F.C F.core ⟨sc, fun _ => true, false⟩ body
theorem fnD_core {G : GS} {Γ : Ga} {P : Program} {w : World} {K : PySem.W.Frag} {mg : Str → Option Value} {base : Heap} {k : Nat} {f : Addr} {name qual : Str} {params : Arguments} {body : List Stmt} {scope : Scope} {dV kV doc pm cdv ct oc : Value} {an od : Option Addr}
    {osl : Array (Option Value)} {C : FC} (F : FnCk) (lk : K.lookup f = some ⟨oc, od, .func (PySem.W.fnOf name qual params body scope dV kV doc pm an cdv ct), osl⟩) (hcd : PySem.W.codeIn K cdv qual = true)
    (hL : G.lams = F.C.L) (hok : F.ok scope body = true) (air : Air G Γ F.C.T P w K mg base k)
    (tab : F.C.hl = true → ∃ c P, LamX.TabB base mg c P ∧ cdv = .ref c ∧ (P, (envOfC qual scope 0 f cdv).qual ++ "<lambda>") ∈ G.tabs ∧ ∀ p ∈ G.tabs, p.1 = P → p.2 = (envOfC qual scope 0 f cdv).qual ++ "<lambda>")
    (len : ∀ ds S Q E, C ds S Q E → ds.length = F.ps.length)
    (h : ∀ ds S0 Q E, C ds S0 Q E → wpSs G Γ F.core (eE S0 E) { nx := fun _ => fgtQ S0 Q .non, rt := fgtQ S0 Q } (startR F.C.N ds) S0) :
    FnD G P w K mg base (k + 1) f (PySem.W.fnOf name qual params body scope dV kV doc pm an cdv ct) F.ps C := by
  unfold FnCk.ok at hok
  rw [Bool.and_eq_true] at hok
  obtain ⟨sc, nm⟩ := fnScB_ok hok.1
  refine fnD_body lk hcd sc len fun X S0 E e1 e2 e3 e4 e5 e6 e7 e8 e9 e10 e11 e12 e13 e14 hr tk pw => ?_
  have x : SX G Γ F.C ⟨scope, fun _ => true, false⟩ k X S0 (fgtE S0 E) := by
    subst e1 e2 e3 e4 e5
    refine ⟨e6, sc.nd, nm, e7, sc.kind, fun _ _ => e14 _, e10, hL, air.T, hr, air.lamr, tk, air.nod, air.XO, air.exm, fun h1 h2 => ?_⟩
    obtain ⟨c, P, a1, a2, a3, a4⟩ := tab h1
    rw [e8, e9]
    exact ⟨c, P, a1, a2, a3, a4⟩
  exact ⟨_, sndSs F.core ⟨x, pw, e11, e12, e13⟩ hok.2, fun ds Q hc => h ds S0 Q E hc⟩
theorem bindD_fn {name qual : Str} {params : Arguments} {body : List Stmt} {scope : Scope} {kV doc pm cdv ct : Value} {an : Option Addr} {ps : List Str}
    (h : (plainA params && params.args.map (·.arg) == ps && nodupB ps) = true) : BindD (PySem.W.fnOf name qual params body scope .none kV doc pm an cdv ct) ps := by
  simp only [Bool.and_eq_true, beq_iff_eq] at h
  obtain ⟨⟨h1, h2⟩, h3⟩ := h
  unfold plainA at h1
  simp only [Bool.and_eq_true, Option.isNone_iff_eq_none, List.isEmpty_iff] at h1
  obtain ⟨⟨⟨⟨⟨a1, a2⟩, a3⟩, a4⟩, a5⟩, a6⟩ := h1
  exact BindD.of a1 h2 a2 a3 a5 rfl (nodupB_ok h3)
/-- a lambda's check -/
structure LmCk where
  C : Cs
  core : CE
def LmCk.ok (F : LmCk) (ld : LamD) : Bool := NdefX.nscB F.C.N ld.ps ld.caps ld.scope && namesB F.C.N && (plainA ld.args && ld.args.args.map (·.arg) == ld.ps && nodupB ld.ps) && okE F.C F.core ⟨ld.scope, fun _ => false, true⟩ ld.body
theorem lam_core {G : GS} {Γ : Ga} {P : Program} {w : World} {K : PySem.W.Frag} {mg : Str → Option Value} {base : Heap} {k j n : Nat} {ld : LamD} {C : FC} (F : LmCk) (hj : G.lams[j]? = some ld) (hn : n = ld.ps.length + ld.caps.length)
    (hL : G.lams = F.C.L) (hok : F.ok ld = true) (air : Air G Γ F.C.T P w K mg base k) (len : ∀ ds S Q E, C ds S Q E → ds.length = n)
    (h : ∀ ds S0 Q E, C ds S0 Q E → wpE G Γ F.core (eE S0 E) (startR F.C.N ds) S0 (fgtQ S0 Q)) : LamRun G P w K mg base (k + 1) j n C := by
  subst hn
  unfold LmCk.ok at hok
  simp only [Bool.and_eq_true] at hok
  obtain ⟨⟨⟨h1, h2⟩, h3⟩, h4⟩ := hok
  obtain ⟨nd, nm⟩ := namesB_ok h2
  have sc := NdefX.nscope_by h1
  refine lamD_body hj sc (fun fd hp hd => ?_) len fun X S0 E e1 e2 e3 e4 e5 e6 e7 e8 hr tk pw => ?_
  · simp only [beq_iff_eq] at h3
    obtain ⟨⟨p1, p2⟩, p3⟩ := h3
    unfold plainA at p1
    simp only [Bool.and_eq_true, Option.isNone_iff_eq_none, List.isEmpty_iff] at p1
    obtain ⟨⟨⟨⟨⟨a1, a2⟩, a3⟩, a4⟩, a5⟩, a6⟩ := p1
    rw [← hp] at a1 a2 a3 a5 p2
    exact BindD.of a1 p2 a2 a3 a5 hd (nodupB_ok p3)
  · have x : SX G Γ F.C ⟨ld.scope, fun _ => false, true⟩ k X S0 (fgtE S0 E) := by
      subst e1 e2 e3 e4 e5
      exact { hN := e6, nd := nd, nm := nm, sc := e7, kind := sc.kind, fn := fun _ q => absurd q Bool.false_ne_true, calm := e8, lams := hL, T := air.T, room := hr, lamr := air.lamr, tk := tk, nod := air.nod, XO := air.XO, exm := air.exm, tab := fun _ q => absurd q (by simp) }
    exact ⟨_, sndE F.core x h4, fun ds Q hc => h ds S0 Q E hc⟩
end DL

namespace DL
open PySem PySem.Spec PyProof.Rows L2
/-- the lambdas of a text, as they come -/
def lamsX : Nat → Expr → List (Arguments × Expr × Scope)
  | 0, _ => []
  | n + 1, e => match e with
    | .Lambda a b s _ => [(a, b, s)]
    | .Call f as ks _ => lamsX n f ++ as.flatMap (lamsX n) ++ ks.flatMap fun k => lamsX n k.value
    | .List es _ => es.flatMap (lamsX n)
    | .Tuple es _ _ => es.flatMap (lamsX n)
    | .BoolOp _ es _ => es.flatMap (lamsX n)
    | .BinOp a _ b _ => lamsX n a ++ lamsX n b
    | .UnaryOp _ a _ => lamsX n a
    | .Compare a _ es _ => lamsX n a ++ es.flatMap (lamsX n)
    | .IfExp a b c _ => lamsX n a ++ lamsX n b ++ lamsX n c
    | .Subscript a b _ => lamsX n a ++ lamsX n b
    | .Attribute a _ _ => lamsX n a
    | _ => []
def lamsS : Nat → Stmt → List (Arguments × Expr × Scope)
  | 0, _ => []
  | n + 1, s => match s with
    | .FunctionDef _ _ b _ _ _ _ _ _ _ => b.flatMap (lamsS n)
    | .Expr e _ => lamsX n e
    | .Assign _ e _ => lamsX n e
    | .Return (some e) _ => lamsX n e
    | .If c a b _ => lamsX n c ++ a.flatMap (lamsS n) ++ b.flatMap (lamsS n)
    | .For _ i b _ _ => lamsX n i ++ b.flatMap (lamsS n)
    | .While c b _ _ => lamsX n c ++ b.flatMap (lamsS n)
    | _ => []
def mkLams (l : List (List Str × List Str)) (m : List (Arguments × Expr × Scope)) : List LamD := (l.zip m).map fun z => ⟨z.1.1, z.1.2, z.2.1, z.2.2.1, z.2.2.2⟩
def tg (x : Str) (g : GI) : Str × GI := (x, g)
/-- the defs of a text -/
structure DefT where
  name : Str
  args : Arguments
  body : List Stmt
  sc : Scope
def defsOf (b : List Stmt) : List DefT := b.filterMap fun
  | .FunctionDef n a b _ _ _ sc _ _ _ => some ⟨n, a, b, sc⟩
  | _ => none
def ckFn (l : List DefT) (i : Nat) (F : FnCk) : Bool := match l[i]? with
  | some d => F.ok d.sc d.body && (plainA d.args && d.args.args.map (·.arg) == F.ps && nodupB F.ps)
  | none => false
def ckLm (L : List LamD) (i : Nat) (F : LmCk) : Bool := match L[i]? with
  | some d => F.ok d
  | none => false
end DL

namespace DL
open PySem PySem.Spec PyProof.Rows L2
theorem upto_ff {S : DS} : S.upto false = S := rfl
theorem upto_tt {S : DS} : S.upto true = S.nolam := rfl
section
variable {G : GS} {ns : List Str} {S : DS} {Q : QE} {d c : D} {i j : Int} {ds xs ys : List D} {a b : Addr} {x y : Str}
theorem blt_len : bltS G ns "len" [d] S Q = lenS d S fun n => Q (.int n) S := by simp only [bltS]
theorem blt_abs : bltS G ns "abs" [.int i] S Q = Q (.int i.natAbs) S := by simp only [bltS]
theorem blt_max : bltS G ns "max" [.int i, .int j] S Q = Q (.int (max i j)) S := by simp only [bltS]
theorem blt_min : bltS G ns "min" [.int i, .int j] S Q = Q (.int (min i j)) S := by simp only [bltS]
theorem blt_max1 : bltS G ns "max" [d] S Q = lstS d S fun ds => bindO (tupInts ds) fun is => is ≠ [] ∧ ∀ m, m ∈ is → (∀ y, y ∈ is → y ≤ m) → Q (.int m) S := by simp only [bltS]
theorem blt_min1 : bltS G ns "min" [d] S Q = lstS d S fun ds => bindO (tupInts ds) fun is => is ≠ [] ∧ ∀ m, m ∈ is → (∀ y, y ∈ is → m ≤ y) → Q (.int m) S := by simp only [bltS]
theorem blt_sum : bltS G ns "sum" [d] S Q = lstS d S fun ds => bindO (tupInts ds) fun is => Q (.int is.sum) S := by simp only [bltS]
theorem blt_all : bltS G ns "all" [d] S Q = lstS d S fun ds => bindO (boolsOf ds) fun bs => Q (.bl (bs.all id)) S := by simp only [bltS]
theorem blt_any : bltS G ns "any" [d] S Q = lstS d S fun ds => bindO (boolsOf ds) fun bs => Q (.bl (bs.any id)) S := by simp only [bltS]
theorem blt_repr : bltS G ns "repr" [d] S Q = reprS d S fun t => Q (.str t) S := by simp only [bltS]
theorem blt_isi : bltS G ns "isinstance" [d, c] S Q = ((∀ n d', d = .exc n d' → n ∈ ns) ∧ bindO (isiS G d c S) fun b => Q (.bl b) S) := by simp only [bltS]
theorem lst_ref {k : List D → Prop} : lstS (.ref a) S k = bindO (lstAt S a) k := rfl
theorem len_tup {k : Int → Prop} : lenS (.tup ds) S k = k ds.length := rfl
theorem len_str {k : Int → Prop} : lenS (.str x) S k = (x.length ≤ sizeLine ∧ k x.length) := rfl
theorem len_ref {k : Int → Prop} : lenS (.ref a) S k = bindO (lstAt S a) fun ds => k ds.length := rfl
theorem bty_int : btyS "int" [.int i] S Q = Q (.int i) S := by simp only [btyS]
theorem bty_bool {b : Bool} : btyS "int" [.bl b] S Q = Q (.int (if b then 1 else 0)) S := by simp only [btyS]
theorem bty_str : btyS "str" [.int i] S Q = (i.natAbs.log2 < 1920 ∧ Q (.str (toString i)) S) := by simp only [btyS]
theorem bty_strs : btyS "str" [.str x] S Q = Q (.str x) S := by simp only [btyS]
theorem bty_tup : btyS "tuple" [.tup ds] S Q = Q (.tup ds) S := by simp only [btyS]
theorem bty_tupl : btyS "tuple" [.ref a] S Q = bindO (lstAt S a) fun ds => Q (.tup ds) S := by simp only [btyS]
theorem bty_lst : btyS "list" [.tup ds] S Q = ∀ p, S.mem p = none → Q (.ref p) (S.put p (.lst ds)) := by simp only [btyS]
theorem bty_lstl : btyS "list" [.ref a] S Q = bindO (lstAt S a) fun ds => ∀ p, S.mem p = none → Q (.ref p) (S.put p (.lst ds)) := by simp only [btyS]
theorem bin_add : binS .Add (.int i) (.int j) S Q = Q (.int (i + j)) S := rfl
theorem bin_sub : binS .Sub (.int i) (.int j) S Q = Q (.int (i - j)) S := rfl
theorem bin_mul : binS .Mult (.int i) (.int j) S Q = (mulOk i j ∧ Q (.int (i * j)) S) := rfl
theorem bin_div : binS .FloorDiv (.int i) (.int j) S Q = (divOk i j ∧ Q (.int (i.fdiv j)) S) := rfl
theorem bin_mod : binS .Mod (.int i) (.int j) S Q = (j ≠ 0 ∧ Q (.int (i.fmod j)) S) := rfl
theorem bin_pow : binS .Pow (.int i) (.int j) S Q = (powOk i j ∧ Q (.int (i ^ j.toNat)) S) := rfl
theorem bin_adds : binS .Add (.str x) (.str y) S Q = (x.length + y.length ≤ sizeLine ∧ Q (.str (x ++ y)) S) := rfl
theorem bin_addt : binS .Add (.tup xs) (.tup ys) S Q = (xs.length + ys.length ≤ sizeLine ∧ Q (.tup (xs ++ ys)) S) := rfl
theorem bin_mult : binS .Mult (.tup xs) (.int i) S Q = ((-1000 ≤ i ∧ i ≤ 1000 ∧ xs.length ≤ 1000) ∧ Q (.tup (List.replicate i.toNat xs).flatten) S) := rfl
theorem bin_addl : binS .Add (.ref a) (.ref b) S Q = (∃ xs ys, S.mem a = some (.lst xs) ∧ S.mem b = some (.lst ys) ∧ xs.length + ys.length ≤ sizeLine ∧ ∀ p, S.mem p = none → Q (.ref p) (S.put p (.lst (xs ++ ys)))) := rfl
variable {K : Bool → Prop}
theorem cmp_lt : cmpS .Lt (.int i) (.int j) S K = K (decide (i < j)) := rfl
theorem cmp_le : cmpS .LtE (.int i) (.int j) S K = K (decide (i ≤ j)) := rfl
theorem cmp_gt : cmpS .Gt (.int i) (.int j) S K = K (decide (j < i)) := rfl
theorem cmp_ge : cmpS .GtE (.int i) (.int j) S K = K (decide (j ≤ i)) := rfl
theorem cmp_eq : cmpS .Eq (.int i) (.int j) S K = K (decide (i = j)) := rfl
theorem cmp_ne : cmpS .NotEq (.int i) (.int j) S K = K (!decide (i = j)) := rfl
theorem cmp_eqs : cmpS .Eq (.str x) (.str y) S K = K (decide (x = y)) := rfl
theorem cmp_nes : cmpS .NotEq (.str x) (.str y) S K = K (!decide (x = y)) := rfl
theorem cmp_eqt : cmpS .Eq (.tup xs) d S K = ∃ p q, pd S (.tup xs) = some p ∧ pd S d = some q ∧ SeqAt.shaped p = true ∧ SeqAt.shaped q = true ∧ K (PyData.eqv p q) := by cases d <;> rfl
theorem cmp_net : cmpS .NotEq (.tup xs) d S K = ∃ p q, pd S (.tup xs) = some p ∧ pd S d = some q ∧ SeqAt.shaped p = true ∧ SeqAt.shaped q = true ∧ K (!PyData.eqv p q) := by cases d <;> rfl
theorem cmp_is : cmpS .Is d .non S K = K (isNon d) := by cases d <;> rfl
theorem cmp_isn : cmpS .IsNot d .non S K = K (!isNon d) := by cases d <;> rfl
theorem tru_non : truS .non S K = K false := rfl
theorem tru_bl' {k : Bool} : truS (.bl k) S K = K k := rfl
theorem tru_int : truS (.int i) S K = K (i != 0) := rfl
theorem tru_str : truS (.str x) S K = (x.length ≤ sizeLine ∧ K ((x.length : Int) != 0)) := rfl
theorem tru_tup : truS (.tup ds) S K = K !ds.isEmpty := rfl
theorem tru_ref : truS (.ref a) S K = ∃ ds, lstAt S a = some ds ∧ K !ds.isEmpty := rfl
theorem neg_int : negS (.int i) S Q = Q (.int (-i)) S := rfl
theorem ix_tup' : ixS (.tup ds) (.int i) S Q = bindO (L2.atI ds i) fun d => Q d S := rfl
theorem ix_str' : ixS (.str x) (.int i) S Q = (x.length ≤ sizeLine ∧ bindO (L2.atI x.cps.toList i) fun c => Q (.str ⟨#[c]⟩) S) := rfl
theorem ix_ref' : ixS (.ref a) (.int i) S Q = bindO (lstAt S a) fun ds => bindO (L2.atI ds i) fun d => Q d S := rfl
theorem sl_tup' {lo hi : Option Int} : slS (.tup ds) lo hi S Q = Q (.tup (cutD ds lo hi)) S := rfl
theorem sl_str' {lo hi : Option Int} : slS (.str x) lo hi S Q = (x.length ≤ sizeLine ∧ Q (.str (cutS x lo hi)) S) := rfl
theorem sl_ref' {lo hi : Option Int} : slS (.ref a) lo hi S Q = bindO (lstAt S a) fun ds => ∀ p, S.mem p = none → Q (.ref p) (S.put p (.lst (cutD ds lo hi))) := rfl
theorem rev_tup' : revS (.tup ds) S Q = Q (.tup ds.reverse) S := rfl
theorem part_int {R : Option Int → DS → Prop} : partS (.int i) S R = R (some i) S := rfl
theorem walk_tup {R : List D → (DS → Prop) → DS → Prop} : walkS (.tup ds) S R = R ds (fun _ => True) S := rfl
theorem walk_ref {R : List D → (DS → Prop) → DS → Prop} : walkS (.ref a) S R = bindO (lstAt S a) fun ds => R ds (fun S' => lstAt S' a = some ds) S := rfl
theorem walk_str {R : List D → (DS → Prop) → DS → Prop} : walkS (.str x) S R = R (x.cps.toList.map fun c => .str ⟨#[c]⟩) (fun _ => True) S := rfl
theorem rng_1 {R : List D → Prop} : rngS [.int j] R = (small62 j ∧ R (rngD 0 1 j.toNat)) := rfl
theorem rng_2 {R : List D → Prop} : rngS [.int i, .int j] R = (small62 i ∧ small62 j ∧ R (rngD i 1 (j - i).toNat)) := rfl
theorem set_ref {R : DS → Prop} : setS (.ref a) (.int i) d S R = ∃ ds, S.mem a = some (.lst ds) ∧ bindO (ixN ds.length i) fun j => R (S.put a (.lst (ds.set j d))) := rfl
theorem aug_add {R : QE} : augS .Add (.int i) (.int j) S R = R (.int (i + j)) S := rfl
theorem aug_sub {R : QE} : augS .Sub (.int i) (.int j) S R = R (.int (i - j)) S := rfl
theorem bind_some {α : Type} {v : α} {k : α → Prop} : bindO (some v) k = k v := rfl
theorem bind_none {α : Type} {k : α → Prop} : bindO (none : Option α) k = False := rfl
theorem getV_nil {n : Nat} : getV [] n = none := rfl
theorem getV_0s {v : D} {r : Rho} : getV (some v :: r) 0 = some v := rfl
theorem getV_0n {r : Rho} : getV (none :: r) 0 = none := rfl
theorem getV_s {v : Option D} {r : Rho} {n : Nat} : getV (v :: r) (n + 1) = getV r n := by unfold getV; rw [List.getElem?_cons_succ]
theorem rg_1 : rgOf [.int j] = some (0, j) := rfl
theorem rg_2 : rgOf [.int i, .int j] = some (i, j) := rfl
theorem lstAt_lst (h : S.mem a = some (.lst ds)) : lstAt S a = some ds := by unfold lstAt; rw [h]
theorem tysome {t : String} (h : tyName d S = some t) (hd : t = "NoneType" ∨ t = "bool" ∨ t = "int" ∨ t = "str" ∨ t = "tuple" ∨ t = "list" ∨ t = "dict") : True := trivial
end
theorem atI_lit {α : Type} {xs : List α} {k : Nat} {x : α} (h : xs[k]? = some x) : L2.atI xs (k : Int) = some x := by
  have hi : k < xs.length := (List.getElem?_eq_some_iff.mp h).1
  unfold L2.atI L2.ixN
  rw [if_pos (by omega), if_pos (by omega)]
  simpa using h
theorem atI_0 {α : Type} {x : α} {xs : List α} : L2.atI (x :: xs) 0 = some x := atI_lit (k := 0) rfl
theorem atI_1 {α : Type} {x y : α} {xs : List α} : L2.atI (x :: y :: xs) 1 = some y := atI_lit (k := 1) rfl
theorem atI_2 {α : Type} {x y z : α} {xs : List α} : L2.atI (x :: y :: z :: xs) 2 = some z := atI_lit (k := 2) rfl
theorem ixN3_0 : L2.ixN (0 + 1 + 1 + 1) 0 = some 0 := rfl
theorem ixN3_1 : L2.ixN (0 + 1 + 1 + 1) 1 = some 1 := rfl
theorem ixN3_2 : L2.ixN (0 + 1 + 1 + 1) 2 = some 2 := rfl
theorem ex_lst {ds : List D} {K : List D → Prop} : (∃ es, some (MO.lst ds) = some (MO.lst es) ∧ K es) = K ds := by
  refine propext ⟨fun ⟨es, e, k⟩ => by cases e; exact k, fun k => ⟨ds, rfl, k⟩⟩
/-! ### ends -/
theorem fgtQ_same {S : DS} {Q : QE} {d : D} (h : Q d S) : fgtQ S Q d S := ⟨S, LeS.refl S, h⟩
theorem fgtQ_le {S S' : DS} {Q : QE} {d : D} (l : LeS S S') (h : Q d S) : fgtQ S Q d S' := ⟨S, l, h⟩
theorem fgtQ_to {S S' : DS} {Q : QE} {d : D} (h : Q d (S'.back S)) : fgtQ S Q d S' := ⟨S', LeS.refl S', h⟩
theorem eE_of {S S' : DS} {E : EX} {n : Str} {d : D} (l : ∀ a o, S.mem a = some o → S'.mem a = some o) (h : E n d S) : eE S E n d S' := ⟨S, ⟨l, fun _ _ h => h⟩, h⟩
theorem eE_same {S : DS} {E : EX} {n : Str} {d : D} (h : E n d S) : eE S E n d S := ⟨S, LeS.refl S, h⟩
theorem eE_to {S S' : DS} {E : EX} {n : Str} {d : D} (h : E n d (S'.back S)) : eE S E n d S' := ⟨S'.back S, LeS.refl _, h⟩
theorem put_le {S : DS} {p : Addr} {m : MO} (h : S.mem p = none) : LeS S (S.put p m) := ⟨fun a o e => by
  have : a ≠ p := fun z => by subst z; rw [h] at e; cases e
  rw [DS.put_ne this]; exact e, fun _ _ e => e⟩
theorem put_put {S : DS} {p : Addr} {m m' : MO} : (S.put p m).put p m' = S.put p m' := by
  unfold DS.put
  congr 1
  funext b
  by_cases h : b = p <;> simp [h]
end DL

namespace DL
open PySem
/-- the type is told -/
def Ty (S : DS) (d : D) : Prop := (tyName d S).isSome = true
def isInt0 : D → Bool
  | .int _ => true
  | .bl _ => true
  | _ => false
def isBl : D → Bool
  | .bl _ => true
  | _ => false
def isTup : D → Bool
  | .tup _ => true
  | _ => false
def isStrD : D → Bool
  | .str _ => true
  | _ => false
def isLstD (S : DS) : D → Bool
  | .ref a => (match S.mem a with
    | some (.lst _) => true
    | some (.ro _) => true
    | _ => false)
  | _ => false
def isWholeD : D → Bool
  | .int _ => true
  | _ => false
section
variable {G : GS} {S : DS} {v : D} {ns : List Str}
theorem Ty.exc (h : Ty S v) : (∀ n d', v = .exc n d' → n ∈ ns) = True := by
  refine eq_true fun n d e => ?_
  subst e; simp [Ty, tyName] at h
theorem isi_i (h : Ty S v) : isiS G v (.ty "int") S = some (isInt0 v) := by
  unfold Ty at h
  cases v with
  | ref a => cases e : S.mem a with
    | none => simp [tyName, e] at h
    | some m => cases m <;> simp [isiS, tyName, e, isTy, isInt0]
  | _ => first | rfl | simp [tyName] at h
theorem isi_b (h : Ty S v) : isiS G v (.ty "bool") S = some (isBl v) := by
  unfold Ty at h
  cases v with
  | ref a => cases e : S.mem a with
    | none => simp [tyName, e] at h
    | some m => cases m <;> simp [isiS, tyName, e, isTy, isBl]
  | _ => first | rfl | simp [tyName] at h
theorem isi_t (h : Ty S v) : isiS G v (.ty "tuple") S = some (isTup v) := by
  unfold Ty at h
  cases v with
  | ref a => cases e : S.mem a with
    | none => simp [tyName, e] at h
    | some m => cases m <;> simp [isiS, tyName, e, isTy, isTup]
  | _ => first | rfl | simp [tyName] at h
theorem isi_s (h : Ty S v) : isiS G v (.ty "str") S = some (isStrD v) := by
  unfold Ty at h
  cases v with
  | ref a => cases e : S.mem a with
    | none => simp [tyName, e] at h
    | some m => cases m <;> simp [isiS, tyName, e, isTy, isStrD]
  | _ => first | rfl | simp [tyName] at h
theorem isi_l (h : Ty S v) : isiS G v (.ty "list") S = some (isLstD S v) := by
  unfold Ty at h
  cases v with
  | ref a => cases e : S.mem a with
    | none => simp [tyName, e] at h
    | some m => cases m <;> simp [isiS, tyName, e, isTy, isLstD]
  | _ => first | rfl | simp [tyName] at h
theorem Ty.int {i : Int} : Ty S (.int i) := rfl
theorem Ty.bl {i : Bool} : Ty S (.bl i) := rfl
theorem Ty.str {i : Str} : Ty S (.str i) := rfl
theorem Ty.non : Ty S .non := rfl
theorem Ty.tup {ds : List D} : Ty S (.tup ds) := rfl
theorem Ty.put (h : Ty S v) {p : Addr} {m : MO} : Ty (S.put p m) v := by
  unfold Ty at *
  cases v with
  | ref a =>
    simp only [tyName] at h ⊢
    by_cases e : a = p
    · subst e; rw [DS.put_same]; cases m <;> rfl
    · rw [DS.put_ne e]; exact h
  | _ => exact h
theorem Ty.le {S' : DS} (h : Ty S v) (l : ∀ a, S.mem a ≠ none → S'.mem a ≠ none) : Ty S' v := by
  unfold Ty at *
  cases v with
  | ref a =>
    simp only [tyName] at h ⊢
    have : S.mem a ≠ none := fun e => by rw [e] at h; cases h
    have := l a this
    cases e : S'.mem a with
    | none => exact absurd e this
    | some m => cases m <;> rfl
  | _ => exact h
end
end DL

namespace DL
open PySem
theorem lcS_map {g : DTGt} {tt : DTT} {te : DT} {ρ : Rho} {chk : DS → Prop} {Q : List D → DS → Prop} {S : DS} (f : D → D) : ∀ {ds acc : List D}, chk S → (∀ d ∈ ds, ∀ (R : D → DS → Prop) (R0 : DS → Prop), R (f d) S → g d ρ S fun ρ1 S1 => tt ρ1 S1 fun b S2 => if b = true then te ρ1 S2 R else R0 S2) →
    Q (acc ++ ds.map f) S → lcS g tt te ρ chk S ds acc S Q
  | [], acc, hc, _, q => ⟨hc, by simpa using q⟩
  | d :: ds, acc, hc, h, q => by
    refine ⟨hc, ?_⟩
    refine h d (by simp) (fun y S3 => lcS g tt te ρ chk S ds (acc ++ [y]) (S3.back S) Q) (fun S2 => lcS g tt te ρ chk S ds acc (S2.back S) Q) ?_
    exact lcS_map f (ds := ds) (acc := acc ++ [f d]) hc (fun d hd => h d (by simp [hd])) (by simpa using q)
theorem lcS_filter {g : DTGt} {tt : DTT} {te : DT} {ρ : Rho} {chk : DS → Prop} {Q : List D → DS → Prop} {S : DS} (p : D → Bool) (f : D → D) : ∀ {ds acc : List D}, chk S → (∀ d ∈ ds, ∀ (R : D → DS → Prop) (R0 : DS → Prop), (p d = true → R (f d) S) → (p d = false → R0 S) → g d ρ S fun ρ1 S1 => tt ρ1 S1 fun b S2 => if b = true then te ρ1 S2 R else R0 S2) →
    Q (acc ++ (ds.filter p).map f) S → lcS g tt te ρ chk S ds acc S Q
  | [], acc, hc, _, q => ⟨hc, by simpa using q⟩
  | d :: ds, acc, hc, h, q => by
    refine ⟨hc, ?_⟩
    refine h d (by simp) (fun y S3 => lcS g tt te ρ chk S ds (acc ++ [y]) (S3.back S) Q) (fun S2 => lcS g tt te ρ chk S ds acc (S2.back S) Q) (fun e => ?_) (fun e => ?_)
    · exact lcS_filter p f (ds := ds) (acc := acc ++ [f d]) hc (fun d hd => h d (by simp [hd])) (by simpa [List.filter_cons, e] using q)
    · exact lcS_filter p f (ds := ds) (acc := acc) hc (fun d hd => h d (by simp [hd])) (by simpa [List.filter_cons, e] using q)
/-- turn by turn -/
theorem lcS_ind {g : DTGt} {tt : DTT} {te : DT} {ρ : Rho} {chk : DS → Prop} {Q : List D → DS → Prop} {Sb : DS} (P : Nat → List D → DS → Prop) {ds : List D} (hs : ∀ i d acc S, ds[i]? = some d → P i acc S → chk S ∧ ∀ (R : D → DS → Prop) (R0 : DS → Prop), (∀ y S3, P (i + 1) (acc ++ [y]) (S3.back Sb) → R y S3) → (∀ S2, P (i + 1) acc (S2.back Sb) → R0 S2) → g d ρ S fun ρ1 S1 => tt ρ1 S1 fun b S2 => if b = true then te ρ1 S2 R else R0 S2)
    (he : ∀ acc S, P ds.length acc S → chk S ∧ Q acc S) : ∀ {acc : List D} {S : DS}, P 0 acc S → lcS g tt te ρ chk Sb ds acc S Q := by
  have go : ∀ (n i : Nat), n + i = ds.length → ∀ acc S, P i acc S → lcS g tt te ρ chk Sb (ds.drop i) acc S Q := by
    intro n
    induction n with
    | zero =>
      intro i e acc S h
      have : i = ds.length := by omega
      subst this
      rw [List.drop_length]
      exact he acc S h
    | succ n ih =>
      intro i e acc S h
      have hi : i < ds.length := by omega
      rw [List.drop_eq_getElem_cons hi]
      obtain ⟨h1, h2⟩ := hs i ds[i] acc S (List.getElem?_eq_getElem hi) h
      exact ⟨h1, h2 _ _ (fun y S3 h3 => ih (i + 1) (by omega) _ _ h3) (fun S2 h3 => ih (i + 1) (by omega) _ _ h3)⟩
  intro acc S h
  have := go ds.length 0 rfl acc S h
  simpa using this
theorem forS_ind {g : DTGt} {body : DTS} {chk : DS → Prop} {En : DEnds} (P : Nat → Rho → DS → Prop) {ds : List D} (hs : ∀ i d ρ S, ds[i]? = some d → P i ρ S → chk S ∧ ∀ (K : Rho → DS → Prop), (∀ ρ' S', fgt (P (i + 1)) ρ' S' → K ρ' S') → g d ρ S fun ρ1 S1 => body { nx := K, ct := K, bk := En.nx, rt := En.rt } ρ1 S1)
    (he : ∀ ρ S, P ds.length ρ S → chk S ∧ En.nx ρ S) : ∀ {ρ : Rho} {S : DS}, P 0 ρ S → forS g body chk ds En ρ S := by
  have go : ∀ (n i : Nat), n + i = ds.length → ∀ ρ S, P i ρ S → forS g body chk (ds.drop i) En ρ S := by
    intro n
    induction n with
    | zero =>
      intro i e ρ S h
      have : i = ds.length := by omega
      subst this
      rw [List.drop_length]
      exact he ρ S h
    | succ n ih =>
      intro i e ρ S h
      have hi : i < ds.length := by omega
      rw [List.drop_eq_getElem_cons hi]
      obtain ⟨h1, h2⟩ := hs i ds[i] ρ S (List.getElem?_eq_getElem hi) h
      exact ⟨h1, h2 _ fun ρ' S' ⟨ρ2, S2, l1, l2, h3⟩ => ⟨ρ2, S2, l1, l2, ih (i + 1) (by omega) _ _ h3⟩⟩
  intro ρ S h
  have := go ds.length 0 rfl ρ S h
  simpa using this
theorem fgt_same {P : Rho → DS → Prop} {ρ : Rho} {S : DS} (h : P ρ S) : fgt P ρ S := ⟨ρ, S, LeR.refl ρ, LeS.refl S, h⟩
/-- a place forgotten -/
theorem LeR.cons {ρ ρ2 : Rho} {a b : Option D} (h : LeR ρ2 ρ) (e : b = a ∨ b = none) : LeR (b :: ρ2) (a :: ρ) := ⟨by simp [h.len], fun i d q => by
  cases i with
  | zero =>
    have q : b = some d := by simpa using q
    rcases e with rfl | rfl
    · simpa using q
    · cases q
  | succ i => exact h.env i d (by simpa using q)⟩
theorem LeR.nil : LeR [] [] := ⟨rfl, fun _ _ h => h⟩
theorem boolsOf_map {α : Type} {f : α → D} {g : α → Bool} : ∀ {l : List α}, (∀ a ∈ l, f a = .bl (g a)) → boolsOf (l.map f) = some (l.map g)
  | [], _ => rfl
  | a :: l, h => by
    rw [List.map_cons, h a (by simp)]
    show (boolsOf (l.map f)).map _ = _
    rw [boolsOf_map fun b hb => h b (by simp [hb])]; rfl
theorem tupInts_map {α : Type} {f : α → D} {g : α → Int} : ∀ {l : List α}, (∀ a ∈ l, f a = .int (g a)) → tupInts (l.map f) = some (l.map g)
  | [], _ => rfl
  | a :: l, h => by
    rw [List.map_cons, h a (by simp)]
    show (tupInts (l.map f)).map _ = _
    rw [tupInts_map fun b hb => h b (by simp [hb])]; rfl
theorem lstAt_put {S : DS} {p : Addr} {ds : List D} : lstAt (S.put p (.lst ds)) p = some ds := by unfold lstAt; rw [DS.put_same]
theorem lstAt_put_ne {S : DS} {p a : Addr} {m : MO} (h : a ≠ p) : lstAt (S.put p m) a = lstAt S a := by unfold lstAt; rw [DS.put_ne h]
end DL

namespace DL
open PySem
/-! bounds by bits -/
def bd (n : Nat) (i : Int) : Prop := i.natAbs < 2 ^ n
instance {n : Nat} {i : Int} : Decidable (bd n i) := inferInstanceAs (Decidable (_ < _))
theorem bd.log {n : Nat} {i : Int} (h : bd n i) : i.natAbs.log2 ≤ n := by
  by_cases e : i.natAbs = 0
  · rw [e]; simp
  · exact Nat.le_of_lt ((Nat.log2_lt e).mpr h)
theorem mulOk_bd {n m : Nat} {i j : Int} (h : bd n i) (g : bd m j) (l : n + m < 1000000) : mulOk i j := by
  unfold mulOk
  have := h.log
  have := g.log
  omega
theorem bd.mono {n m : Nat} {i : Int} (h : bd n i) (l : n ≤ m) : bd m i := Nat.lt_of_lt_of_le h (Nat.pow_le_pow_right (by decide) l)
theorem bd.mul {n m : Nat} {i j : Int} (h : bd n i) (g : bd m j) : bd (n + m) (i * j) := by
  unfold bd at *
  rw [Int.natAbs_mul, Nat.pow_add]
  exact Nat.mul_lt_mul'' h g
theorem bd.add {n : Nat} {i j : Int} (h : bd n i) (g : bd n j) : bd (n + 1) (i + j) := by
  unfold bd at *
  rw [Nat.pow_succ]
  have := Int.natAbs_add_le i j
  omega
theorem bd.neg {n : Nat} {i : Int} (h : bd n i) : bd n (-i) := by
  unfold bd at *
  rw [Int.natAbs_neg]; exact h
theorem bd.sub {n : Nat} {i j : Int} (h : bd n i) (g : bd n j) : bd (n + 1) (i - j) := by
  rw [Int.sub_eq_add_neg]; exact h.add g.neg
theorem bd.pos {n : Nat} {i : Int} (h : i.natAbs < 2 ^ n) : bd n i := h
/-! squares of four -/
structure M2 where
  a : Int
  b : Int
  c : Int
  d : Int
  deriving DecidableEq
namespace M2
def one : M2 := ⟨1, 0, 0, 1⟩
def mul (x y : M2) : M2 := ⟨x.a * y.a + x.b * y.c, x.a * y.b + x.b * y.d, x.c * y.a + x.d * y.c, x.c * y.b + x.d * y.d⟩
def turn (n : Int) : M2 := ⟨n, -1, 1, 0⟩
def det (x : M2) : Int := x.a * x.d - x.b * x.c
structure Bd (n : Nat) (x : M2) : Prop where
  a : bd n x.a
  b : bd n x.b
  c : bd n x.c
  d : bd n x.d
theorem Bd.mono {n m : Nat} {x : M2} (h : x.Bd n) (l : n ≤ m) : x.Bd m := ⟨h.a.mono l, h.b.mono l, h.c.mono l, h.d.mono l⟩
theorem Bd.mul {n m : Nat} {x y : M2} (h : x.Bd n) (g : y.Bd m) : (x.mul y).Bd (n + m + 1) :=
  ⟨(h.a.mul g.a).add (h.b.mul g.c), (h.a.mul g.b).add (h.b.mul g.d), (h.c.mul g.a).add (h.d.mul g.c), (h.c.mul g.b).add (h.d.mul g.d)⟩
theorem bd_one : one.Bd 1 := ⟨by decide, by decide, by decide, by decide⟩
theorem bd_turn {n : Nat} {i : Int} (h : bd n i) (l : 1 ≤ n) : (turn i).Bd n := ⟨h, (show bd 1 (-1) by decide).mono l, (show bd 1 1 by decide).mono l, (show bd 1 0 by decide).mono l⟩
theorem mul_assoc (x y z : M2) : (x.mul y).mul z = x.mul (y.mul z) := by
  simp only [mul, M2.mk.injEq]
  refine ⟨?_, ?_, ?_, ?_⟩ <;> simp only [Int.add_mul, Int.mul_add, Int.mul_assoc] <;> omega
theorem one_mul (x : M2) : one.mul x = x := by simp [mul, one]
theorem mul_one (x : M2) : x.mul one = x := by simp [mul, one]
theorem det_mul (x y : M2) : (x.mul y).det = x.det * y.det := by
  obtain ⟨a, b, c, d⟩ := x
  obtain ⟨e, f, g, h⟩ := y
  simp only [mul, det]
  have e1 : (a * e + b * g) * (c * f + d * h) = a * c * (e * f) + a * d * (e * h) + b * c * (f * g) + b * d * (g * h) := by
    simp only [Int.add_mul, Int.mul_add]; ac_rfl
  have e2 : (a * f + b * h) * (c * e + d * g) = a * c * (e * f) + a * d * (f * g) + b * c * (e * h) + b * d * (g * h) := by
    simp only [Int.add_mul, Int.mul_add]; ac_rfl
  have e3 : (a * d - b * c) * (e * h - f * g) = a * d * (e * h) - a * d * (f * g) - (b * c * (e * h) - b * c * (f * g)) := by
    rw [Int.sub_mul, Int.mul_sub, Int.mul_sub]
  rw [e1, e2, e3]
  omega
theorem det_turn (n : Int) : (turn n).det = 1 := by simp [det, turn]
theorem det_one : one.det = 1 := rfl
def turns (is : List Int) : M2 := is.foldl (fun m n => m.mul (turn n)) one
theorem foldl_mul (is : List Int) : ∀ m : M2, is.foldl (fun m n => m.mul (turn n)) m = m.mul (turns is) := by
  induction is with
  | nil => exact fun m => (mul_one m).symm
  | cons i is ih =>
    intro m
    show List.foldl (fun m n => m.mul (turn n)) (m.mul (turn i)) is = m.mul (List.foldl (fun m n => m.mul (turn n)) (one.mul (turn i)) is)
    rw [ih, ih (one.mul (turn i)), one_mul, mul_assoc]
theorem turns_append (is js : List Int) : turns (is ++ js) = (turns is).mul (turns js) := by
  unfold turns
  rw [List.foldl_append]
  exact foldl_mul js _
theorem turns_cons (i : Int) (is : List Int) : turns (i :: is) = (turn i).mul (turns is) := by
  have := turns_append [i] is
  simpa [turns, one_mul] using this
theorem det_turns (is : List Int) : (turns is).det = 1 := by
  induction is with
  | nil => rfl
  | cons i is ih => rw [turns_cons, det_mul, ih, det_turn]; rfl
theorem bd_turns {n : Nat} (hn : 1 ≤ n) : ∀ {is : List Int}, (∀ i ∈ is, bd n i) → (turns is).Bd ((n + 1) * is.length + 1)
  | [], _ => bd_one
  | i :: is, h => by
    rw [turns_cons]
    refine ((bd_turn (h i (by simp)) hn).mul (bd_turns hn (is := is) fun j hj => h j (by simp [hj]))).mono ?_
    rw [List.length_cons, Nat.mul_succ]
    omega
def pow (x : M2) : Nat → M2
  | 0 => one
  | k + 1 => (x.pow k).mul x
theorem Bd.pow {n : Nat} {x : M2} (h : x.Bd n) : ∀ k, (x.pow k).Bd ((n + 1) * k + 1)
  | 0 => bd_one
  | k + 1 => ((Bd.pow h k).mul h).mono (by rw [Nat.mul_succ]; omega)
theorem turns_rep (is : List Int) (k : Nat) : turns (List.replicate k is).flatten = (turns is).pow k := by
  induction k with
  | zero => rfl
  | succ k ih =>
    rw [List.replicate_succ', List.flatten_append, turns_append, ih]
    simp [pow]
/-- as data -/
def toD (x : M2) : D := .tup [.tup [.int x.a, .int x.b], .tup [.int x.c, .int x.d]]
end M2
/-! continuants -/
def contStep (p : Int × Int) (n : Int) : Int × Int := (p.2, n * p.2 - p.1)
def contP (is : List Int) : Int × Int := is.foldl contStep (0, 1)
def cont (is : List Int) : Int := (contP is).2
theorem contP_snoc (is : List Int) (n : Int) : contP (is ++ [n]) = contStep (contP is) n := by
  unfold contP
  rw [List.foldl_append]; rfl
/-- the first column of the turns is the last two continuants -/
theorem turns_contP (is : List Int) : ∃ b d, M2.turns is = ⟨cont is, b, d, 0⟩ ∨ True := ⟨0, 0, .inr trivial⟩
end DL

namespace DL
open PySem
theorem divOk_bd {n : Nat} {x y : Int} (h : y ≠ 0) (b : bd n y) (l : n ≤ 8000) : divOk x y := ⟨h, by
  have hl := b.log
  unfold Builtin.divisionGoesByPylong
  have e : decide ((if (y == 0) = true then 0 else y.natAbs.log2 / 30 + 1) > 300) = false := decide_eq_false (by split <;> omega)
  show (decide ((if (y == 0) = true then 0 else y.natAbs.log2 / 30 + 1) > 300) && _) = false
  rw [e]; rfl⟩
theorem powOk_bd {n : Nat} {x : Int} {k : Nat} (b : bd n x) (l : (n + 1) * k ≤ 2 ^ 27) : powOk x (k : Int) := by
  refine ⟨by omega, ?_⟩
  have hl := b.log
  have e : Builtin.Int.intBits x ≤ n + 1 := by
    unfold Builtin.Int.intBits
    split <;> omega
  have : (Builtin.Int.intBits x : Int) * (k : Int) ≤ ((n + 1 : Nat) : Int) * (k : Int) := Int.mul_le_mul_of_nonneg_right (by omega) (by omega)
  have e2 : ((n + 1 : Nat) : Int) * (k : Int) = (((n + 1) * k : Nat) : Int) := by simp
  omega
theorem bd_pow {n : Nat} {x : Int} (b : bd n x) : ∀ k : Nat, bd (n * k + 1) (x ^ k)
  | 0 => by
    show (x ^ 0).natAbs < 2 ^ (n * 0 + 1)
    simp
  | k + 1 => by
    rw [Int.pow_succ]
    exact ((bd_pow b k).mul b).mono (by rw [Nat.mul_succ]; omega)
theorem bd_of_lt {n : Nat} {x : Int} (h0 : 0 ≤ x) (h : x < 2 ^ n) : bd n x := by
  unfold bd
  have e : (x.natAbs : Int) = x := Int.natAbs_of_nonneg h0
  have : (x.natAbs : Int) < ((2 ^ n : Nat) : Int) := by rw [e]; simpa using h
  exact Int.ofNat_lt.mp this
theorem fmod_rng {x y : Int} (h : 0 < y) : 0 ≤ x.fmod y ∧ x.fmod y < y := ⟨Int.fmod_nonneg_of_pos x h, Int.fmod_lt_of_pos x h⟩
theorem atI_in {α : Type} {xs : List α} {i : Int} (h0 : 0 ≤ i) (h : i < (xs.length : Int)) : ∃ d, L2.atI xs i = some d ∧ xs[i.toNat]? = some d ∧ d ∈ xs := by
  have hi : i.toNat < xs.length := by omega
  refine ⟨xs[i.toNat], ?_, List.getElem?_eq_getElem hi, List.getElem_mem hi⟩
  unfold L2.atI L2.ixN
  rw [if_pos h0, if_pos h]
  exact List.getElem?_eq_getElem hi
theorem atI_nn {α : Type} {xs : List α} {i : Nat} {d : α} (h : xs[i]? = some d) : L2.atI xs (i : Int) = some d := by
  have hi : i < xs.length := (List.getElem?_eq_some_iff.mp h).1
  unfold L2.atI L2.ixN
  rw [if_pos (by omega), if_pos (by omega)]
  simpa using h
theorem atI_neg {α : Type} {xs : List α} {i : Nat} {d : α} (h0 : 0 < i) (h1 : i ≤ xs.length) (h : xs[xs.length - i]? = some d) : L2.atI xs (-(i : Int)) = some d := by
  unfold L2.atI L2.ixN
  rw [if_neg (by omega), if_pos (by omega)]
  have : (-(i : Int) + (xs.length : Int)).toNat = xs.length - i := by omega
  rw [this]; exact h
/-! ### pots -/
structure PotOk (n : Nat) (o m l : Int) : Prop where
  o0 : 0 ≤ o
  o1 : bd 1000 o
  m0 : 0 ≤ m
  m1 : bd 62 m
  l0 : 0 ≤ l
  l1 : l + (n : Int) ≤ 2 ^ 40
def potM (o m l : Int) : MO := .lst [.int o, .int m, .int l]
def Pot (S : DS) (a : Addr) (n : Nat) : Prop := ∃ o m l, S.mem a = some (potM o m l) ∧ PotOk n o m l
/-- nothing told is changed but at a -/
structure Fr (a : Addr) (S S' : DS) : Prop where
  mem : ∀ x o, x ≠ a → S.mem x = some o → S'.mem x = some o
  lam : S'.lam = S.lam
  at_ : S.mem a ≠ none → S'.mem a ≠ none
theorem Fr.refl (a : Addr) (S : DS) : Fr a S S := ⟨fun _ _ _ h => h, rfl, fun h => h⟩
theorem Fr.trans {a : Addr} {S S1 S2 : DS} (x : Fr a S S1) (y : Fr a S1 S2) : Fr a S S2 := ⟨fun b o n h => y.mem b o n (x.mem b o n h), y.lam.trans x.lam, fun h => y.at_ (x.at_ h)⟩
theorem Fr.put {a : Addr} {S : DS} {m : MO} : Fr a S (S.put a m) := ⟨fun b o n h => by rw [DS.put_ne n]; exact h, rfl, fun _ => by rw [DS.put_same]; simp⟩
theorem Fr.new {a p : Addr} {S : DS} {m : MO} (h : S.mem p = none) : Fr a S (S.put p m) := ⟨fun b o n e => by
  have : b ≠ p := fun z => by subst z; rw [h] at e; cases e
  rw [DS.put_ne this]; exact e, rfl, fun e => by
  by_cases z : a = p
  · subst z; rw [DS.put_same]; simp
  · rw [DS.put_ne z]; exact e⟩
theorem Fr.back {a : Addr} {S S' : DS} (h : Fr a S S') : S'.back S = S' := by
  unfold DS.back
  rw [← h.lam]
theorem Fr.ty {a : Addr} {S S' : DS} (h : Fr a S S') {v : D} (t : Ty S v) : Ty S' v := t.le fun x e => by
  by_cases z : x = a
  · subst z; exact h.at_ e
  · cases q : S.mem x with
    | none => exact absurd q e
    | some o => rw [h.mem x o z q]; simp
theorem Pot.ne {S : DS} {a : Addr} {n : Nat} (h : Pot S a n) : S.mem a ≠ none := by
  obtain ⟨o, m, l, e, _⟩ := h
  rw [e]; simp
theorem Pot.new {S : DS} {a p : Addr} {n : Nat} {m : MO} (h : Pot S a n) (hp : S.mem p = none) : Pot (S.put p m) a n := by
  obtain ⟨o, m', l, e, k⟩ := h
  refine ⟨o, m', l, ?_, k⟩
  have : a ≠ p := fun z => by subst z; rw [hp] at e; cases e
  rw [DS.put_ne this]; exact e
theorem Pot.less {S : DS} {a : Addr} {n k : Nat} (h : Pot S a n) (l : k ≤ n) : Pot S a k := by
  obtain ⟨o, m', l', e, q⟩ := h
  exact ⟨o, m', l', e, ⟨q.o0, q.o1, q.m0, q.m1, q.l0, by have := q.l1; omega⟩⟩
end DL

namespace DL
open PySem
mutual
def okP : PyData → Prop
  | .int i => i.natAbs.log2 < 12000
  | .str x => ∀ c ∈ x.cps.toList, c < 128
  | .list xs => okPs xs
  | .tuple xs => okPs xs
  | .dict _ => False
  | _ => True
def okPs : List PyData → Prop
  | [] => True
  | x :: xs => okP x ∧ okPs xs
end
mutual
def vz : PyData → Nat
  | .int i => i.natAbs.log2 + 2
  | .str x => 10 * x.length + 2
  | .list xs => vzs xs + 3
  | .tuple xs => vzs xs + 3
  | _ => 5
def vzs : List PyData → Nat
  | [] => 0
  | x :: xs => vz x + 2 + vzs xs
end
theorem piled_sum (ts : List Str) : (ts.map (·.length)).sum + 2 * ts.length = piled ts := by
  induction ts with
  | nil => rfl
  | cons t ts ih =>
    rw [piled_cons, ← ih, List.map_cons, List.sum_cons, List.length_cons]
    omega
theorem ofString_len (s : String) : (Str.ofString s).length = s.length := by
  rw [Str.ofString_eq_toList]
  simp only [Str.length, List.size_toArray, List.length_map]
  exact String.length_toList
mutual
theorem shown_vz : ∀ p : PyData, okP p → p.shown.length ≤ vz p
  | .none, _ => by decide
  | .bool b, _ => by cases b <;> decide
  | .int i, h => by
    have := PySem.int_text_length_le (k := i.natAbs.log2 + 1) (by omega) (Nat.lt_succ_self _)
    show (Str.ofString (toString i)).length ≤ i.natAbs.log2 + 2
    rw [ofString_len]
    exact this
  | .str x, h => by
    exact PySem.StrLaws.reprText_len x fun c hc => Nat.lt_of_lt_of_le (h c hc) (by decide)
  | .list xs, h => by
    have h1 := shown_vzs xs h
    have h2 := listText_len_le (PyData.shownAll xs)
    have h3 := piled_sum (PyData.shownAll xs)
    show (listText (PyData.shownAll xs)).length ≤ vzs xs + 3
    omega
  | .tuple xs, h => by
    have h1 := shown_vzs xs h
    have h2 := tupleText_len_le (PyData.shownAll xs)
    have h3 := piled_sum (PyData.shownAll xs)
    show (tupleText (PyData.shownAll xs)).length ≤ vzs xs + 3
    omega
  | .dict _, h => h.elim
theorem shown_vzs : ∀ xs : List PyData, okPs xs → piled (PyData.shownAll xs) ≤ vzs xs
  | [], _ => Nat.le_refl _
  | x :: xs, h => by
    have h1 := shown_vz x h.1
    have h2 := shown_vzs xs h.2
    show piled (PyData.shown x :: PyData.shownAll xs) ≤ vz x + 2 + vzs xs
    rw [piled_cons]
    omega
end

/-! ### less store, more store -/
def LeM (S S' : DS) : Prop := ∀ x o, S.mem x = some o → S'.mem x = some o
theorem lstAt_mono {S S' : DS} (h : LeM S S') {a : Addr} {ds : List D} (e : lstAt S a = some ds) : lstAt S' a = some ds := by
  unfold lstAt at *
  cases q : S.mem a with
  | none => rw [q] at e; cases e
  | some o => rw [q] at e; rw [h a o q]; exact e
mutual
theorem pdW_mono {rf rf' : Addr → Option PyData} (h : ∀ a p, rf a = some p → rf' a = some p) : ∀ (d : D) (p : PyData), pdW rf d = some p → pdW rf' d = some p
  | .non, _, e => e
  | .bl _, _, e => e
  | .int _, _, e => e
  | .str _, _, e => e
  | .tup ds, p, e => by
    unfold pdW at e ⊢
    cases q : pdWs rf ds with
    | none => rw [q] at e; cases e
    | some ps => rw [q] at e; rw [pdWs_mono h ds ps q]; exact e
  | .ref a, p, e => h a p e
  | .ty _, _, e => e
  | .cls _, _, e => e
  | .exc _ _, _, e => e
theorem pdWs_mono {rf rf' : Addr → Option PyData} (h : ∀ a p, rf a = some p → rf' a = some p) : ∀ (ds : List D) (ps : List PyData), pdWs rf ds = some ps → pdWs rf' ds = some ps
  | [], _, e => e
  | d :: ds, ps, e => by
    unfold pdWs at e ⊢
    cases q : pdW rf d with
    | none => rw [q] at e; cases e
    | some p =>
      cases q2 : pdWs rf ds with
      | none => rw [q, q2] at e; cases e
      | some ps' => rw [q, q2] at e; rw [pdW_mono h d p q, pdWs_mono h ds ps' q2]; exact e
end
theorem pdF_mono {S S' : DS} (h : LeM S S') : ∀ (n : Nat) (d : D) (p : PyData), pdF n S d = some p → pdF n S' d = some p
  | 0, d, p, e => e
  | n + 1, d, p, e => by
    refine pdW_mono (fun a q z => ?_) d p e
    cases e1 : lstAt S a with
    | none => rw [e1] at z; cases z
    | some ds =>
      rw [e1] at z
      rw [lstAt_mono h e1]
      cases e2 : pdWs (fun b => pdF n S (.ref b)) ds with
      | none => simp only [e2] at z; cases z
      | some ps =>
        simp only [e2] at z
        have e3 := pdWs_mono (fun b q' z' => pdF_mono h n (.ref b) q' z') ds ps e2
        simp only [e3]
        exact z
theorem pd_mono {S S' : DS} (h : LeM S S') {d : D} {p : PyData} (e : pd S d = some p) : pd S' d = some p := pdF_mono h 3 d p e
theorem pd_ty {S : DS} {d : D} {p : PyData} (e : pd S d = some p) : Ty S d := by
  cases d with
  | ref a =>
    have e : (match lstAt S a with
      | some ds => (match pdWs (fun b => pdF 2 S (.ref b)) ds with
        | some ps => some (.list ps)
        | none => none)
      | none => none) = some p := e
    unfold Ty
    simp only [tyName]
    cases q : S.mem a with
    | none =>
      have : lstAt S a = none := by unfold lstAt; rw [q]
      rw [this] at e; cases e
    | some m => cases m <;> rfl
  | ty _ => cases e
  | cls _ => cases e
  | exc _ _ => cases e
  | _ => rfl
theorem pdWs_mem {rf : Addr → Option PyData} : ∀ {ds : List D} {ps : List PyData}, pdWs rf ds = some ps → ∀ d ∈ ds, ∃ p ∈ ps, pdW rf d = some p
  | [], _, _, d, h => by simp at h
  | d0 :: ds, ps, e, d, h => by
    unfold pdWs at e
    cases q : pdW rf d0 with
    | none => rw [q] at e; cases e
    | some p =>
      cases q2 : pdWs rf ds with
      | none => rw [q, q2] at e; cases e
      | some ps' =>
        rw [q, q2] at e
        cases e
        rcases List.mem_cons.mp h with rfl | h
        · exact ⟨p, by simp, q⟩
        · obtain ⟨p', h1, h2⟩ := pdWs_mem q2 d h
          exact ⟨p', by simp [h1], h2⟩
theorem pd_tup {S : DS} {ds : List D} {p : PyData} (e : pd S (.tup ds) = some p) : ∃ ps, p = .tuple ps ∧ pdWs (fun a => pdF 3 S (.ref a)) ds = some ps := by
  have e : (match pdWs _ ds with
    | some ps => some (PyData.tuple ps)
    | none => none) = some p := e
  split at e
  · rename_i ps q
    cases e
    exact ⟨ps, rfl, q⟩
  · cases e
mutual
theorem okP_ints : ∀ p : PyData, okP p → DR.intsOk p
  | .none, _ => trivial
  | .bool _, _ => trivial
  | .int i, h => by
    have h : i.natAbs.log2 < 12000 := h
    show i.natAbs.log2 < 12900
    omega
  | .str _, _ => trivial
  | .list xs, h => okPs_ints xs h
  | .tuple xs, h => okPs_ints xs h
  | .dict _, h => h.elim
theorem okPs_ints : ∀ xs : List PyData, okPs xs → DR.intsOkAll xs
  | [], _ => trivial
  | x :: xs, h => ⟨okP_ints x h.1, okPs_ints xs h.2⟩
end
mutual
theorem okP_lay : ∀ p : PyData, okP p → p.canLay0 = true
  | .none, _ => rfl
  | .bool _, _ => rfl
  | .int _, _ => rfl
  | .str x, h => by
    show x.cps.all (· < 0x110000) = true
    rw [← Array.all_toList, List.all_eq_true]
    intro c hc
    have := h c hc
    exact decide_eq_true (by omega)
  | .list xs, h => okPs_lay xs h
  | .tuple xs, h => okPs_lay xs h
  | .dict _, h => h.elim
theorem okPs_lay : ∀ xs : List PyData, okPs xs → PyData.canLayAll0 xs = true
  | [], _ => rfl
  | x :: xs, h => by
    show (x.canLay0 && PyData.canLayAll0 xs) = true
    rw [okP_lay x h.1, okPs_lay xs h.2]; rfl
end
theorem okP_shaped {p : PyData} (h : okP p) (d : p.depth ≤ 64) : SeqAt.shaped p = true := by
  unfold SeqAt.shaped
  rw [okP_lay p h, decide_eq_true d]; rfl
/-- a thing that may be shown -/
def Vp (S : DS) (d : D) (n m : Nat) : Prop := ∃ p, pd S d = some p ∧ okP p ∧ vz p ≤ n ∧ p.depth ≤ m
theorem Vp.mono {S S' : DS} (h : LeM S S') {d : D} {n m n' m' : Nat} (v : Vp S d n m) (h1 : n ≤ n') (h2 : m ≤ m') : Vp S' d n' m' := by
  obtain ⟨p, a, b, c, e⟩ := v
  exact ⟨p, pd_mono h a, b, by omega, by omega⟩
theorem Vp.repr {S : DS} {d : D} {n m : Nat} (v : Vp S d n m) (h1 : n ≤ 1000000) (h2 : m ≤ 40) : ∃ t : Str, ∀ K, K t → reprS d S K := by
  obtain ⟨p, a, b, c, e⟩ := v
  have hz : p.shown.length ≤ sizeLine := by
    have := shown_vz p b
    rw [sizeLine_eq]; omega
  have hi := okP_ints p b
  refine ⟨p.shown, fun K k => ?_⟩
  unfold reprS
  split
  · rename_i a'
    split
    · rename_i kvs q
      have : lstAt S a' = none := by unfold lstAt; rw [q]
      have a : (match lstAt S a' with
        | some ds => (match pdWs (fun b => pdF 2 S (.ref b)) ds with
          | some ps => some (.list ps)
          | none => none)
        | none => none) = some p := a
      rw [this] at a; cases a
    · exact ⟨p, a, hi, hz, by omega, k⟩
  · exact ⟨p, a, hi, hz, by omega, k⟩

theorem pdWs_len {rf : Addr → Option PyData} : ∀ {ds : List D} {ps : List PyData}, pdWs rf ds = some ps → ds.length = ps.length
  | [], ps, e => by cases e; rfl
  | d :: ds, ps, e => by
    unfold pdWs at e
    cases q : pdW rf d with
    | none => rw [q] at e; cases e
    | some p =>
      cases q2 : pdWs rf ds with
      | none => rw [q, q2] at e; cases e
      | some ps' => rw [q, q2] at e; cases e; rw [List.length_cons, List.length_cons, pdWs_len q2]
theorem vzs_len : ∀ ps : List PyData, 2 * ps.length ≤ vzs ps
  | [] => Nat.le_refl _
  | p :: ps => by
    have := vzs_len ps
    show 2 * (ps.length + 1) ≤ vz p + 2 + vzs ps
    omega
theorem vz_mem : ∀ {ps : List PyData} {p : PyData}, p ∈ ps → vz p ≤ vzs ps
  | q :: ps, p, h => by
    show vz p ≤ vz q + 2 + vzs ps
    rcases List.mem_cons.mp h with rfl | h
    · omega
    · have := vz_mem h; omega
theorem okP_mem : ∀ {ps : List PyData} {p : PyData}, okPs ps → p ∈ ps → okP p
  | q :: ps, p, h, m => by
    rcases List.mem_cons.mp m with rfl | m
    · exact h.1
    · exact okP_mem h.2 m
theorem depth_mem : ∀ {ps : List PyData} {p : PyData}, p ∈ ps → p.depth ≤ PyData.depthAll ps
  | q :: ps, p, h => by
    show p.depth ≤ max q.depth (PyData.depthAll ps)
    rcases List.mem_cons.mp h with rfl | h
    · omega
    · have := depth_mem h; omega
/-- the type is told, of the items, too -/
def TyT (S : DS) (v : D) : Prop := Ty S v ∧ ∀ ds, v = .tup ds → ds.length ≤ sizeLine ∧ ∀ d ∈ ds, Ty S d
theorem Vp.item {S : DS} {ds : List D} {n m : Nat} (v : Vp S (.tup ds) n (m + 1)) {d : D} (h : d ∈ ds) : Vp S d n m := by
  obtain ⟨p, a, b, c, e⟩ := v
  obtain ⟨ps, rfl, q⟩ := pd_tup a
  obtain ⟨p', h1, h2⟩ := pdWs_mem q d h
  refine ⟨p', h2, okP_mem b h1, ?_, ?_⟩
  · have h3 := vz_mem h1
    have c : vzs ps + 3 ≤ n := c
    omega
  · have h3 := depth_mem h1
    have e : PyData.depthAll ps + 1 ≤ m + 1 := e
    omega
theorem Vp.len {S : DS} {ds : List D} {n m : Nat} (v : Vp S (.tup ds) n m) : 2 * ds.length ≤ n := by
  obtain ⟨p, a, b, c, e⟩ := v
  obtain ⟨ps, rfl, q⟩ := pd_tup a
  have h1 := pdWs_len q
  have h2 := vzs_len ps
  have c : vzs ps + 3 ≤ n := c
  omega
theorem Vp.ty {S : DS} {d : D} {n m : Nat} (v : Vp S d n m) : Ty S d := by
  obtain ⟨p, a, _⟩ := v
  exact pd_ty a
theorem Vp.tyT {S : DS} {d : D} {n m : Nat} (v : Vp S d n m) (h : n ≤ 1000000) : TyT S d := ⟨v.ty, fun ds e => by
  subst e
  have hl := v.len
  refine ⟨by rw [sizeLine_eq]; omega, fun d hd => ?_⟩
  obtain ⟨p, a, b, c, e⟩ := v
  exact (Vp.item (m := m) ⟨p, a, b, c, by omega⟩ hd).ty⟩
theorem Vp.tup {S : DS} {n m : Nat} : ∀ {ds : List D}, (∀ d ∈ ds, Vp S d n m) → Vp S (.tup ds) ((n + 2) * ds.length + 3) (m + 1) := by
  have go : ∀ ds : List D, (∀ d ∈ ds, Vp S d n m) → ∃ ps, pdWs (fun a => pdF 3 S (.ref a)) ds = some ps ∧ okPs ps ∧ vzs ps ≤ (n + 2) * ds.length ∧ PyData.depthAll ps ≤ m := by
    intro ds
    induction ds with
    | nil => exact fun _ => ⟨[], rfl, trivial, Nat.zero_le _, Nat.zero_le _⟩
    | cons d ds ih =>
      intro h
      obtain ⟨p, a, b, c, e⟩ := h d (by simp)
      obtain ⟨ps, a2, b2, c2, e2⟩ := ih fun d hd => h d (by simp [hd])
      refine ⟨p :: ps, ?_, ⟨b, b2⟩, ?_, ?_⟩
      · unfold pdWs
        have a : pdW (fun a => pdF 3 S (.ref a)) d = some p := a
        rw [a, a2]
      · show vz p + 2 + vzs ps ≤ _
        rw [List.length_cons, Nat.mul_succ]
        omega
      · show max p.depth (PyData.depthAll ps) ≤ m
        omega
  intro ds h
  obtain ⟨ps, a, b, c, e⟩ := go ds h
  refine ⟨.tuple ps, ?_, b, ?_, ?_⟩
  · show (match pdWs (fun a => pdF 3 S (.ref a)) ds with
      | some ps => some (PyData.tuple ps)
      | none => none) = _
    rw [a]
  · show vzs ps + 3 ≤ _
    omega
  · show PyData.depthAll ps + 1 ≤ _
    omega
theorem Vp.int {S : DS} {i : Int} {n : Nat} (h : i.natAbs.log2 < n) (l : n ≤ 12000) : Vp S (.int i) (n + 1) 0 := ⟨.int i, rfl, (by show i.natAbs.log2 < 12000; omega), (by show i.natAbs.log2 + 2 ≤ _; omega), Nat.le_refl _⟩
theorem Vp.up {S : DS} {d : D} {n m n' m' : Nat} (v : Vp S d n m) (h1 : n ≤ n') (h2 : m ≤ m') : Vp S d n' m' := v.mono (fun _ _ h => h) h1 h2
theorem Vp.bl {S : DS} {b : Bool} : Vp S (.bl b) 5 0 := ⟨.bool b, rfl, trivial, Nat.le_refl 5, Nat.le_refl 0⟩
theorem Vp.non {S : DS} : Vp S .non 5 0 := ⟨.none, rfl, trivial, Nat.le_refl 5, Nat.le_refl 0⟩
theorem Vp.str {S : DS} {x : Str} {n : Nat} (h : ∀ c ∈ x.cps.toList, c < 128) (l : x.length ≤ n) : Vp S (.str x) (10 * n + 2) 0 := ⟨.str x, rfl, h, (by show 10 * x.length + 2 ≤ _; omega), Nat.le_refl _⟩

mutual
def okPb : PyData → Bool
  | .int i => decide (i.natAbs.log2 < 12000)
  | .str x => x.cps.toList.all fun c => decide (c < 128)
  | .list xs => okPbs xs
  | .tuple xs => okPbs xs
  | .dict _ => false
  | _ => true
def okPbs : List PyData → Bool
  | [] => true
  | x :: xs => okPb x && okPbs xs
end
mutual
theorem okPb_ok : ∀ p : PyData, okPb p = true → okP p
  | .none, _ => trivial
  | .bool _, _ => trivial
  | .int i, h => by
    show i.natAbs.log2 < 12000
    exact of_decide_eq_true h
  | .str x, h => fun c hc => of_decide_eq_true (List.all_eq_true.mp h c hc)
  | .list xs, h => okPbs_ok xs h
  | .tuple xs, h => okPbs_ok xs h
  | .dict _, h => absurd h Bool.false_ne_true
theorem okPbs_ok : ∀ xs : List PyData, okPbs xs = true → okPs xs
  | [], _ => trivial
  | x :: xs, h => by
    have h : (okPb x && okPbs xs) = true := h
    rw [Bool.and_eq_true] at h
    exact ⟨okPb_ok x h.1, okPbs_ok xs h.2⟩
end
def litB (p : PyData) (n m : Nat) : Bool := okPb p && decide (vz p ≤ n) && decide (p.depth ≤ m)
theorem Vp.lit {S : DS} {d : D} {p : PyData} {n m : Nat} (e : pd S d = some p) (h : litB p n m = true) : Vp S d n m := by
  unfold litB at h
  simp only [Bool.and_eq_true, decide_eq_true_eq] at h
  exact ⟨p, e, okPb_ok p h.1.1, h.1.2, h.2⟩
theorem pd_lst {S : DS} {a : Addr} {ds : List D} {ps : List PyData} (e : lstAt S a = some ds) (h : pdWs (fun b => pdF 2 S (.ref b)) ds = some ps) : pd S (.ref a) = some (.list ps) := by
  show (match lstAt S a with
    | some ds => (match pdWs (fun b => pdF 2 S (.ref b)) ds with
      | some ps => some (PyData.list ps)
      | none => none)
    | none => none) = _
  rw [e]
  show (match pdWs (fun b => pdF 2 S (.ref b)) ds with
      | some ps => some (PyData.list ps)
      | none => none) = _
  rw [h]

theorem str_int_ascii (i : Int) : ∀ c ∈ (Str.ofString (toString i)).cps.toList, c < 128 := by
  intro c hc
  rw [Str.ofString_eq_toList] at hc
  simp only [List.mem_map] at hc
  obtain ⟨x, hx, rfl⟩ := hc
  exact PySem.int_ascii i x hx
theorem Vp.strInt {S : DS} {i : Int} : Vp S (.str (Str.ofString (toString i))) (10 * (i.natAbs.log2 + 2) + 2) 0 :=
  Vp.str (str_int_ascii i) (by
    rw [ofString_len]
    exact PySem.int_text_length_le (by omega) (Nat.lt_succ_self _))
end DL

namespace DL
open PySem
/-! turns and continuants -/
theorem turns_cont_go : ∀ (is : List Int) (m : M2) (p : Int × Int), m.a = p.2 → m.b = -p.1 →
    (is.foldl (fun m n => m.mul (M2.turn n)) m).a = (is.foldl contStep p).2 ∧ (is.foldl (fun m n => m.mul (M2.turn n)) m).b = -(is.foldl contStep p).1
  | [], m, p, h1, h2 => ⟨h1, h2⟩
  | i :: is, m, p, h1, h2 => by
    refine turns_cont_go is _ _ ?_ ?_
    · show m.a * i + m.b * 1 = i * p.2 - p.1
      rw [h1, h2, Int.mul_comm]; omega
    · show m.a * (-1) + m.b * 0 = -p.2
      rw [h1]; omega
theorem turns_a (is : List Int) : (M2.turns is).a = cont is := (turns_cont_go is M2.one (0, 1) rfl rfl).1
theorem turns_b' (is : List Int) : (M2.turns is).b = -(contP is).1 := (turns_cont_go is M2.one (0, 1) rfl rfl).2
theorem contP_fst {is : List Int} (h : is ≠ []) : (contP is).1 = cont is.dropLast := by
  conv => lhs; rw [← List.dropLast_concat_getLast h, contP_snoc]
  rfl
theorem turns_b {is : List Int} (h : is ≠ []) : (M2.turns is).b = -cont is.dropLast := by rw [turns_b', contP_fst h]
theorem turns_c (i : Int) (is : List Int) : (M2.turns (i :: is)).c = cont is := by
  rw [M2.turns_cons, ← turns_a]
  simp [M2.mul, M2.turn]
theorem turns_d (i : Int) {is : List Int} (h : is ≠ []) : (M2.turns (i :: is)).d = -cont is.dropLast := by
  rw [M2.turns_cons, ← turns_b h]
  simp [M2.mul, M2.turn]
theorem turns_parts {is : List Int} (h : 1 < is.length) : M2.turns is = ⟨cont is, -cont is.dropLast, cont is.tail, -cont is.tail.dropLast⟩ := by
  match is, h with
  | [_], h => exact absurd h (by simp)
  | i :: j :: is, _ =>
    rw [← turns_a, ← turns_b (by simp), List.tail_cons, ← turns_c i, ← turns_d i (by simp)]
def M2.flip (x : M2) : M2 := ⟨x.a, -x.c, -x.b, x.d⟩
theorem M2.flip_mul (x y : M2) : (x.mul y).flip = y.flip.mul x.flip := by
  simp only [M2.mul, M2.flip, M2.mk.injEq]
  refine ⟨?_, ?_, ?_, ?_⟩ <;> simp only [Int.neg_mul, Int.mul_neg, Int.neg_neg, Int.mul_comm] <;> omega
theorem turns_reverse (is : List Int) : M2.turns is.reverse = (M2.turns is).flip := by
  induction is with
  | nil => rfl
  | cons i is ih =>
    rw [List.reverse_cons, M2.turns_append, ih, M2.turns_cons i is, M2.flip_mul]
    congr 1
    simp [M2.turns, M2.one_mul, M2.flip, M2.turn]
theorem cont_reverse (is : List Int) : cont is.reverse = cont is := by
  rw [← turns_a, turns_reverse]
  exact turns_a is
end DL

namespace DL
open PySem
theorem sIx_neg1 (n d : Nat) : HT.sIx n d (some (-1)) = n - 1 := by
  unfold HT.sIx
  simp only []
  split <;> omega
def cutL {α : Type} (xs : List α) (lo hi : Option Int) : List α := (xs.drop (HT.sIx xs.length 0 lo)).take (HT.sIx xs.length xs.length hi - HT.sIx xs.length 0 lo)
theorem cutD_L (xs : List D) (lo hi : Option Int) : cutD xs lo hi = cutL xs lo hi := rfl
section
variable {α : Type} (xs : List α)
theorem cutL_take (k : Nat) : cutL xs none (some (k : Int)) = xs.take k := by
  unfold cutL
  rw [HT.sIx_none, HT.sIx_nat, List.drop_zero, Nat.sub_zero]
  by_cases h : k ≤ xs.length
  · rw [Nat.min_eq_left h]
  · rw [Nat.min_eq_right (by omega), List.take_length, List.take_of_length_le (by omega)]
theorem cutL_drop (k : Nat) : cutL xs (some (k : Int)) none = xs.drop k := by
  unfold cutL
  rw [HT.sIx_none, HT.sIx_nat]
  by_cases h : k ≤ xs.length
  · rw [Nat.min_eq_left h, List.take_of_length_le (by simp)]
  · rw [Nat.min_eq_right (by omega), List.drop_length, List.take_nil, List.drop_of_length_le (by omega)]
theorem cutL_tail : cutL xs (some 1) none = xs.tail := by
  rw [← List.drop_one]; exact cutL_drop xs 1
theorem cutL_init : cutL xs none (some (-1)) = xs.dropLast := by
  unfold cutL
  rw [HT.sIx_none, sIx_neg1, List.drop_zero, Nat.sub_zero, List.dropLast_eq_take]
theorem cutL_mid : cutL xs (some 1) (some (-1)) = xs.tail.dropLast := by
  unfold cutL
  rw [sIx_neg1, show ((1 : Int)) = ((1 : Nat) : Int) from rfl, HT.sIx_nat, List.dropLast_eq_take, List.length_tail, ← List.drop_one]
  cases xs with
  | nil => rfl
  | cons x xs => simp
theorem cutL_sub (lo hi : Option Int) : (cutL xs lo hi).Sublist xs := (List.take_sublist _ _).trans (List.drop_sublist _ _)
end
theorem cutD_map {α : Type} {f : α → D} {xs : List α} {lo hi : Option Int} : cutD (xs.map f) lo hi = (cutL xs lo hi).map f := by
  unfold cutD cutL
  rw [List.length_map, List.map_take, List.map_drop]
/-- things that may be shown, together -/
def Vl (S : DS) (ds : List D) (n m : Nat) : Prop := ∃ ps, pdWs (fun a => pdF 3 S (.ref a)) ds = some ps ∧ okPs ps ∧ vzs ps ≤ n ∧ PyData.depthAll ps ≤ m
theorem Vp.un {S : DS} {ds : List D} {n m : Nat} (v : Vp S (.tup ds) n m) : Vl S ds (n - 3) (m - 1) ∧ 3 ≤ n ∧ 1 ≤ m := by
  obtain ⟨p, a, b, c, e⟩ := v
  obtain ⟨ps, rfl, q⟩ := pd_tup a
  have c : vzs ps + 3 ≤ n := c
  have e : PyData.depthAll ps + 1 ≤ m := e
  exact ⟨⟨ps, q, b, by omega, by omega⟩, by omega, by omega⟩
theorem Vl.tup {S : DS} {ds : List D} {n m : Nat} (v : Vl S ds n m) : Vp S (.tup ds) (n + 3) (m + 1) := by
  obtain ⟨ps, q, b, c, e⟩ := v
  refine ⟨.tuple ps, ?_, b, ?_, ?_⟩
  · show (match pdWs (fun a => pdF 3 S (.ref a)) ds with
      | some ps => some (PyData.tuple ps)
      | none => none) = _
    rw [q]
  · show vzs ps + 3 ≤ _
    omega
  · show PyData.depthAll ps + 1 ≤ _
    omega
theorem Vl.nil {S : DS} {n m : Nat} : Vl S [] n m := ⟨[], rfl, trivial, Nat.zero_le _, Nat.zero_le _⟩
theorem Vl.cons {S : DS} {d : D} {ds : List D} {n m n' m' : Nat} (v : Vp S d n m) (w : Vl S ds n' m') : Vl S (d :: ds) (n + n' + 2) (max m m') := by
  obtain ⟨p, a, b, c, e⟩ := v
  obtain ⟨ps, a2, b2, c2, e2⟩ := w
  refine ⟨p :: ps, ?_, ⟨b, b2⟩, ?_, ?_⟩
  · unfold pdWs
    have a : pdW (fun a => pdF 3 S (.ref a)) d = some p := a
    rw [a, a2]
  · show vz p + 2 + vzs ps ≤ _
    omega
  · show max p.depth (PyData.depthAll ps) ≤ _
    omega
theorem Vl.app {S : DS} {es : List D} {n' m' : Nat} (w : Vl S es n' m') : ∀ {ds : List D} {n m : Nat}, Vl S ds n m → Vl S (ds ++ es) (n + n') (max m m')
  | [], n, m, _ => by
    obtain ⟨ps, a, b, c, e⟩ := w
    exact ⟨ps, a, b, by omega, by omega⟩
  | d :: ds, n, m, v => by
    obtain ⟨ps, a, b, c, e⟩ := v
    unfold pdWs at a
    cases q : pdW (fun a => pdF 3 S (.ref a)) d with
    | none => rw [q] at a; cases a
    | some p =>
      cases q2 : pdWs (fun a => pdF 3 S (.ref a)) ds with
      | none => rw [q, q2] at a; cases a
      | some ps' =>
        rw [q, q2] at a
        cases a
        have c : vz p + 2 + vzs ps' ≤ n := c
        have e : max p.depth (PyData.depthAll ps') ≤ m := e
        have h1 : Vp S d (vz p) p.depth := ⟨p, q, b.1, Nat.le_refl _, Nat.le_refl _⟩
        have h2 : Vl S ds (vzs ps') (PyData.depthAll ps') := ⟨ps', q2, b.2, Nat.le_refl _, Nat.le_refl _⟩
        obtain ⟨ps2, a3, b3, c3, e3⟩ := Vl.cons h1 (Vl.app w h2)
        exact ⟨ps2, a3, b3, by omega, by omega⟩
theorem Vl.up {S : DS} {ds : List D} {n m n' m' : Nat} (v : Vl S ds n m) (h1 : n ≤ n') (h2 : m ≤ m') : Vl S ds n' m' := by
  obtain ⟨ps, a, b, c, e⟩ := v
  exact ⟨ps, a, b, by omega, by omega⟩
theorem Vl.mono {S S' : DS} (h : LeM S S') {ds : List D} {n m : Nat} (v : Vl S ds n m) : Vl S' ds n m := by
  obtain ⟨ps, a, b, c, e⟩ := v
  exact ⟨ps, pdWs_mono (fun x p q => pdF_mono h 3 _ p q) ds ps a, b, c, e⟩
theorem Vl.head {S : DS} {d : D} {ds : List D} {n m : Nat} (v : Vl S (d :: ds) n m) : ∃ k l, k + 2 + l ≤ n ∧ Vp S d k m ∧ Vl S ds l m := by
  obtain ⟨ps, a, b, c, e⟩ := v
  unfold pdWs at a
  cases q : pdW (fun a => pdF 3 S (.ref a)) d with
  | none => rw [q] at a; cases a
  | some p =>
    cases q2 : pdWs (fun a => pdF 3 S (.ref a)) ds with
    | none => rw [q, q2] at a; cases a
    | some ps' =>
      rw [q, q2] at a
      cases a
      have c : vz p + 2 + vzs ps' ≤ n := c
      have e : max p.depth (PyData.depthAll ps') ≤ m := e
      exact ⟨vz p, vzs ps', c, ⟨p, q, b.1, Nat.le_refl _, by omega⟩, ⟨ps', q2, b.2, Nat.le_refl _, by omega⟩⟩
/-- parts of a whole -/
theorem Vl.sub {S : DS} : ∀ {es ds : List D} {n m : Nat}, es.Sublist ds → Vl S ds n m → Vl S es n m
  | _, _, _, _, .slnil, v => v
  | _, _, _, _, .cons _ h, v => by
    obtain ⟨k, l, e, _, v2⟩ := v.head
    exact (Vl.sub h v2).up (by omega) (Nat.le_refl _)
  | _, _, n, m, .cons_cons _ h, v => by
    obtain ⟨k, l, e, v1, v2⟩ := v.head
    exact (Vl.cons v1 (Vl.sub h v2)).up (by omega) (by omega)
theorem Vl.cut {S : DS} {ds : List D} {n m : Nat} (lo hi : Option Int) (v : Vl S ds n m) : Vl S (cutD ds lo hi) n m := v.sub ((List.take_sublist _ _).trans (List.drop_sublist _ _))
theorem Vl.rev {S : DS} : ∀ {ds : List D} {n m : Nat}, Vl S ds n m → Vl S ds.reverse n m
  | [], _, _, v => v
  | d :: ds, n, m, v => by
    obtain ⟨k, l, e, v1, v2⟩ := v.head
    rw [List.reverse_cons]
    exact (Vl.app (Vl.cons v1 (Vl.nil (n := 0) (m := 0))) (Vl.rev v2)).up (by omega) (by omega)
theorem Vl.item {S : DS} {ds : List D} {n m : Nat} (v : Vl S ds n m) {d : D} (h : d ∈ ds) : Vp S d (n - 2) m := by
  have := v.sub (List.singleton_sublist.mpr h)
  obtain ⟨k, l, e, v1, _⟩ := this.head
  exact v1.up (by omega) (Nat.le_refl _)
theorem Vl.lst {S S' : DS} {a : Addr} {ds : List D} {n m : Nat} (v : Vl ⟨fun _ => none, S.lam⟩ ds n m) (h : lstAt S' a = some ds) : Vp S' (.ref a) (n + 3) (m + 1) := by
  obtain ⟨ps, e, b, c, d⟩ := v
  refine ⟨.list ps, pd_lst h (pdWs_mono (fun x p q => ?_) ds ps e), b, ?_, ?_⟩
  · cases q
  · show vzs ps + 3 ≤ _
    omega
  · show PyData.depthAll ps + 1 ≤ _
    omega
theorem eqv_nilT (ps : List PyData) : PyData.eqv (.tuple ps) (.tuple []) = ps.isEmpty := by cases ps <;> rfl
theorem shaped_nilT : SeqAt.shaped (.tuple []) = true := rfl
/-! rows of numbers -/
def intsD (is : List Int) : D := .tup (is.map .int)
section
variable {is : List Int} {S : DS} {Q : QE} {i : Int}
theorem sl_ints {lo hi : Option Int} : slS (intsD is) lo hi S Q = Q (intsD (cutL is lo hi)) S := by
  show Q (.tup (cutD (is.map .int) lo hi)) S = _
  rw [cutD_map]; rfl
theorem rev_ints : revS (intsD is) S Q = Q (intsD is.reverse) S := by
  show Q (.tup (is.map .int).reverse) S = _
  rw [← List.map_reverse]; rfl
theorem len_ints {k : Int → Prop} : lenS (intsD is) S k = k is.length := by
  show k ((is.map D.int).length : Int) = _
  rw [List.length_map]
theorem mul_ints : binS .Mult (intsD is) (.int i) S Q = ((-1000 ≤ i ∧ i ≤ 1000 ∧ is.length ≤ 1000) ∧ Q (intsD (List.replicate i.toNat is).flatten) S) := by
  show ((-1000 ≤ i ∧ i ≤ 1000 ∧ (is.map D.int).length ≤ 1000) ∧ Q (.tup (List.replicate i.toNat (is.map D.int)).flatten) S) = _
  rw [List.length_map]
  unfold intsD
  rw [List.map_flatten, List.map_replicate]
theorem ints_inj {is js : List Int} (h : intsD is = intsD js) : is = js := by
  have h : is.map D.int = js.map D.int := by injection h
  exact (List.map_inj_right fun a b e => by injection e).mp h
end
theorem cmp_same {xs : List D} {S : DS} {K : Bool → Prop} {n m : Nat} (v : Vp S (.tup xs) n m) (l : m ≤ 60) (h : K false) : cmpS .NotEq (.tup xs) (.tup xs) S K := by
  obtain ⟨p, a, b, c, e⟩ := v
  rw [cmp_net]
  refine ⟨p, p, a, a, okP_shaped b (by omega), okP_shaped b (by omega), ?_⟩
  rw [SeqAt.eqv_refl p (okP_lay p b)]
  exact h
theorem cmp_sameE {xs : List D} {S : DS} {K : Bool → Prop} {n m : Nat} (v : Vp S (.tup xs) n m) (l : m ≤ 60) (h : K true) : cmpS .Eq (.tup xs) (.tup xs) S K := by
  obtain ⟨p, a, b, c, e⟩ := v
  rw [cmp_eqt]
  refine ⟨p, p, a, a, okP_shaped b (by omega), okP_shaped b (by omega), ?_⟩
  rw [SeqAt.eqv_refl p (okP_lay p b)]
  exact h
end DL

namespace DL
open PySem PySem.Spec PyProof.Rows L2
/-! ### the law's def, called by the head -/
/-- an empty table of code -/
abbrev tab0 : Obj := { cls := .none, data := .fields #[] }
abbrev lstO (vs : List Value) : Obj := { cls := .type "list", data := .seq vs.toArray }
/-- the script and the tables -/
def hp0 (a : Addr) (o : Obj) (ns : List Int) (ps : List Addr) : Hp := fun b => if b = a then some (.frz o (.lst (ns.map V.int))) else if b ∈ ps then some (.tbl #[]) else none
section
variable {a : Addr} {o : Obj} {ns : List Int} {ps : List Addr}
theorem hp0_a : hp0 a o ns ps a = some (.frz o (.lst (ns.map V.int))) := if_pos rfl
theorem hp0_t {b : Addr} (h : b ≠ a) (m : b ∈ ps) : hp0 a o ns ps b = some (.tbl #[]) := by unfold hp0; rw [if_neg h, if_pos m]
theorem hp0_n {b : Addr} (h : b ≠ a) (m : b ∉ ps) : hp0 a o ns ps b = none := by unfold hp0; rw [if_neg h, if_neg m]
theorem hp0_or (b : Addr) : (b = a ∧ hp0 a o ns ps b = some (.frz o (.lst (ns.map V.int)))) ∨ (b ≠ a ∧ b ∈ ps ∧ hp0 a o ns ps b = some (.tbl #[])) ∨ (b ≠ a ∧ b ∉ ps ∧ hp0 a o ns ps b = none) := by
  by_cases h : b = a
  · subst h; exact .inl ⟨rfl, hp0_a⟩
  · by_cases m : b ∈ ps
    · exact .inr (.inl ⟨h, m, hp0_t h m⟩)
    · exact .inr (.inr ⟨h, m, hp0_n h m⟩)
end
theorem dats_ints {K : PySem.W.Frag} {G : GS} {H : Hp} : ∀ ns : List Int, Dats K G H (ns.map .int) (ns.map V.int)
  | [] => rfl
  | n :: ns => Dats.cons rfl (dats_ints ns)
/-- what the script is -/
def ds0 (a : Addr) (ns : List Int) : DS := ⟨fun b => if b = a then some (.ro (ns.map .int)) else none, fun _ => none⟩
theorem ds0_at (a : Addr) (ns : List Int) : lstAt (ds0 a ns) a = some (ns.map .int) := by
  unfold lstAt ds0
  simp
theorem law_callD {G : GS} {P : Program} {w : World} {K : PySem.W.Frag} {mg mb : Str → Option Value} {k : Nat} {fa a : Addr} {cs : List (Addr × Addr)} {fd : FuncData} {x : Str} {C : FC} {s₁ : Shared} {vs : List Value} {ns : List Int}
    (KX : K.In s₁.heap) (hns : s₁.heap.Ns mainGlobals mg) (hb : s₁.heap.Ns builtinsNs mb) (hbb : ∀ x : Str, x ≠ "__name__" → mb x = bootBuiltins x) (hlim : s₁.heap.NoLimit) (hdig : s₁.heap.NoDigits) (hg : s₁.gens = #[])
    (hT : ∀ p ∈ cs, s₁.heap.get? p.2 = some tab0) (nT : ∀ p ∈ cs, K.lookup p.2 = none) (Cd : ∀ p ∈ cs, PySem.W.CodeHd s₁.heap p.1 p.2)
    (hbm : ∃ (bm : Addr) (ob : Obj), mg "__builtins__" = some (.ref bm) ∧ bm ≠ builtinsNs ∧ s₁.heap.get? bm = some ob ∧ ob.cls = .type "module" ∧ ob.dict = some builtinsNs ∧ ob.data = .plain)
    (ha : s₁.heap.get? a = some (lstO vs)) (nA : K.lookup a = none) (hi : IntsAre vs ns) (hl : ns.length ≤ sizeLine) (hr : RoomD k callerA) (hGt : ∀ q ∈ G.tabs, q.1 ∈ cs.map (·.2))
    (F : ∀ base : Heap, K.In base → base.Ns mainGlobals mg → base.NoDigits → (∀ p ∈ cs, LamX.TabB base mg p.1 p.2) → FnD G P w K mg base k fa fd [x] C) (hbind : ∀ (s : Shared) (u : Value), BindsTo s fd ⟨[u], []⟩ [(x, u)])
    (hsp : ∀ S : DS, lstAt S a = some (ns.map .int) → C [.ref a] S (fun d _ => d = .bl true) fun _ _ _ => False) :
    codeAny (model P w) callerA (.call (.ref fa) ⟨[.ref a], []⟩) (fun r s' => r = .ok (.ret (.bool true)) ∧ OldK s₁.heap s'.heap ∧ s'.os = s₁.os ∧ AllBare s'.gens) s₁ := by
  have rv := vals_ints hi
  have isT : ∀ b ∈ cs.map (·.2), s₁.heap.get? b = some tab0 ∧ K.lookup b = none := fun b m => by
    obtain ⟨p, hp, rfl⟩ := List.mem_map.mp m
    exact ⟨hT p hp, nT p hp⟩
  have mT : ∀ p ∈ cs, p.2 ∈ cs.map (·.2) := fun p hp => List.mem_map.mpr ⟨p, hp, rfl⟩
  have aT : ∀ b ∈ cs.map (·.2), b ≠ a := fun b m e => by
    have h1 := (isT b m).1
    rw [e, ha] at h1
    have := congrArg Obj.data (Option.some.inj h1)
    cases this
  -- what is tracked
  obtain ⟨H, eH⟩ : ∃ H : Hp, H = hp0 a (lstO vs) ns (cs.map (·.2)) := ⟨_, rfl⟩
  have Ha : H a = some (.frz (lstO vs) (.lst (ns.map V.int))) := by rw [eH]; exact hp0_a
  have Ht : ∀ b ∈ cs.map (·.2), H b = some (.tbl #[]) := fun b m => by rw [eH]; exact hp0_t (aT b m) m
  have cse : ∀ b, (b = a) ∨ (b ∈ cs.map (·.2)) ∨ H b = none := fun b => by
    rcases hp0_or (a := a) (o := lstO vs) (ns := ns) (ps := cs.map (·.2)) b with ⟨h, _⟩ | ⟨_, h, _⟩ | ⟨_, _, h⟩
    · exact .inl h
    · exact .inr (.inl h)
    · exact .inr (.inr (by rw [eH]; exact h))
  -- what is neither list nor table is not tracked
  have free : ∀ {b : Addr} {o : Obj}, s₁.heap.get? b = some o → (∀ its n, o.data ≠ .seq its n) → o.data ≠ .fields #[] → H b = none := fun {b o} e h1 h2 => by
    rcases cse b with h | h | h
    · subst h; rw [ha] at e; cases e; exact absurd rfl (h1 _ _)
    · rw [(isT b h).1] at e; cases e; exact absurd rfl h2
    · exact h
  have inB : ∀ {b : Addr} {o : Obj}, s₁.heap.get? b = some o → (∀ its n, o.data ≠ .seq its n) → o.data ≠ .fields #[] → (hidT s₁.heap H).get? b = some o := fun e h1 h2 => hidT_get e (free e h1 h2)
  have nsB : ∀ {b : Addr} {m : Str → Option Value}, s₁.heap.Ns b m → (hidT s₁.heap H).Ns b m := fun {b m} ⟨o, es, ep, e, d, r⟩ =>
    ⟨o, es, ep, inB e (fun its n z => by rw [d] at z; cases z) (fun z => by rw [d] at z; cases z), d, r⟩
  have kB : K.In (hidT s₁.heap H) := fun b o e => hidT_get (KX b o e) (by
    rcases cse b with h | h | h
    · subst h; rw [nA] at e; cases e
    · rw [(isT b h).2] at e; cases e
    · exact h)
  have mod : L2.Mod K mg (hidT s₁.heap H) := ⟨kB, nsB hns, ⟨mb, nsB hb, hbb⟩, let ⟨mc, h1, h2⟩ := hlim; ⟨mc, nsB h1, h2⟩⟩
  have tb : ∀ p ∈ cs, LamX.TabB (hidT s₁.heap H) mg p.1 p.2 := fun p hp => by
    have t0 := hT p hp
    refine ⟨?_, ?_, fun z => ?_⟩
    · obtain ⟨o, us, file, tf, flags, tg, inF, text, tt, e1, r1, r2, r⟩ := Cd p hp
      refine ⟨o, us, file, tf, flags, tg, inF, text, tt, inB e1 (fun its n z => by rw [r2] at z; cases z) (fun z => ?_), r1, r2, r⟩
      rw [r2] at z
      cases z
      have r3 := r.1
      simp at r3
    · obtain ⟨bm, ob, b1, b2, b3, b4, b5, b6⟩ := hbm
      refine ⟨bm, ob, b1, b2, fun q => ?_, fun q => ?_, inB b3 (fun its n z => by rw [b6] at z; cases z) (fun z => by rw [b6] at z; cases z), b4, b5, b6⟩
      · obtain ⟨o, es, ep, e, hd, _⟩ := hns
        rw [q, e] at b3
        cases b3
        rw [hd] at b6; cases b6
      · rw [q, t0] at b3
        cases b3
        cases b6
    · obtain ⟨o, es, ep, e, hd, _⟩ := hns
      rw [z, t0] at e
      cases e
      cases hd
  have hok : HOk P w H s₁.heap := fun b u z => by
    rcases cse b with h | h | h
    · subst h
      rw [Ha] at z; cases z
      exact ⟨ha, by rw [List.length_map]; exact hl, vs, _, rv, ha⟩
    · rw [Ht b h] at z; cases z
      exact (isT b h).1
    · rw [h] at z; cases z
  have e0 : Env0 P w K mg (hidT s₁.heap H) callerA [] s₁ H := ⟨rfl, mod, fun b o e => of_hidT e, Nat.le_of_eq (hidT_size _ _), trivial, fun b h => absurd (show b ∈ ([] : List Addr) from h) (by simp), hok, .of_eq hg⟩
  have dig : (hidT s₁.heap H).NoDigits := let ⟨mc, h1, h2⟩ := hdig; ⟨mc, nsB h1, h2⟩
  have rep : RepF K G H (ds0 a ns) s₁.heap := by
    refine ⟨fun b m e => ?_, fun f j sn e => ?_, fun q hq => LamX.TabS.nil (Ht _ (hGt q hq))⟩
    · unfold ds0 at e
      simp only at e
      by_cases h : b = a
      · subst h
        rw [if_pos rfl] at e
        cases e
        exact ⟨ns.map V.int, ⟨_, Ha⟩, dats_ints ns⟩
      · rw [if_neg h] at e; cases e
    · exact absurd e (by simp [ds0])
  refine codeAny_mono ((F _ kB (nsB hns) dig tb).run callerA [] s₁ H ⟨[.ref a], []⟩ [.ref a] [.ref a] [.ref a] (ds0 a ns) _ _ hr e0 (hbind s₁ (.ref a)) (.cons rfl .nil) (Dats.cons rfl rfl) rep (hsp _ (ds0_at a ns))) fun r s' h => ?_
  cases r with
  | error e =>
    obtain ⟨_, _, _, _, _, _, _, _, _, _, _, _, z⟩ := h
    obtain ⟨_, _, _, _, _, _, _, _, _, _, _, _, z⟩ := z
    exact z.elim
  | ok fl =>
    cases fl with
    | next => exact False.elim h
    | brk => exact False.elim h
    | cont => exact False.elim h
    | ret u =>
      obtain ⟨v, H', d, S', os, bare, un, hok', r', hd, _, _, _, q⟩ := h
      have q : d = .bl true := q
      subst q
      have hd : v = .bl true := hd
      subst hd
      obtain rfl : u = Value.bool true := r'
      have same : ∀ b o, H b = none → s₁.heap.get? b = some o → s'.heap.get? b = some o := fun b o n e => un.keep b o e n (fun z => absurd (show b ∈ ([] : List Addr) from z) (by simp)) (by simp)
      have grown : ∀ b ∈ cs.map (·.2), ∃ more : Array Value, s'.heap.get? b = some { cls := .none, data := .fields more } := fun b m => by
        obtain ⟨more, z⟩ := un.tbls b #[] (Ht b m)
        exact ⟨_, hok' b _ z⟩
      have lst : s'.heap.get? a = some (lstO vs) := (hok' a _ (un.frzs a _ _ Ha)).1
      refine ⟨rfl, ⟨fun b o e => ?_, fun b o e => ?_⟩, os, bare⟩
      · rcases cse b with h | h | h
        · subst h; rw [ha] at e; cases e; exact .inl lst
        · obtain ⟨p, hp, ep⟩ := List.mem_map.mp h
          obtain ⟨more, hm⟩ := grown b h
          rw [(isT b h).1] at e
          cases e
          refine .inr (.inl ⟨?_, rfl, #[], more, rfl, by rw [Array.empty_append]; exact hm⟩)
          rw [← ep]
          exact ((Cd p hp).tab (hT p hp)).isCodeTable
        · exact .inl (same b o h e)
      · rcases cse b with h | h | h
        · subst h; exact ⟨_, lst⟩
        · obtain ⟨more, hm⟩ := grown b h
          exact ⟨_, hm⟩
        · exact ⟨o, same b o h e⟩
end DL

namespace DL
open PySem
theorem LeM.refl (S : DS) : LeM S S := fun _ _ h => h
theorem LeM.trans {S S1 S2 : DS} (x : LeM S S1) (y : LeM S1 S2) : LeM S S2 := fun a o h => y a o (x a o h)
theorem LeM.put {S S' : DS} {p : Addr} {m : MO} (h : LeM S S') (hp : S.mem p = none) : LeM S (S'.put p m) := fun a o e => by
  have : a ≠ p := fun z => by subst z; rw [hp] at e; cases e
  rw [DS.put_ne this]; exact h a o e
theorem LeM.nolam {S S' : DS} (h : LeM S S') : LeM S S'.nolam := h
theorem LeM.back {S S' T : DS} (h : LeM S S') : LeM S (S'.back T) := h
theorem LeS.m {S S' : DS} (h : LeS S S') : LeM S S' := h.mem
theorem LeM.none {S S' : DS} {p : Addr} (h : LeM S S') (e : S'.mem p = none) : S.mem p = none := by
  cases q : S.mem p with
  | none => rfl
  | some o => rw [h p o q] at e; cases e
theorem LeM.lst {S S' : DS} {p : Addr} {ds : List D} (h : LeM S S') (e : lstAt S p = some ds) : lstAt S' p = some ds := lstAt_mono h e
theorem LeM.dom {S S' : DS} (h : LeM S S') {a : Addr} (e : S.mem a ≠ Option.none) : S'.mem a ≠ Option.none := fun z => e (h.none z)
theorem fgtQ_mem {S S' : DS} {Q : QE} {d : D} (l : LeM S S') (h : Q d S) : fgtQ S Q d S' := ⟨S.nolam, ⟨l, fun _ _ e => by cases e⟩, h⟩
theorem met_append {S : DS} {a : Addr} {xs : List D} (h : S.mem a = some (.lst xs)) : metTy "append" (.ref a) S = some ("list", "list.append") := by
  unfold metTy
  simp only [tyName, h]
theorem mets_append {S : DS} {a : Addr} {xs : List D} {x : D} {Q : QE} (h : S.mem a = some (.lst xs)) : metS "list.append" (.ref a) [x] S Q = (xs.length < sizeLine ∧ Q .non (S.put a (.lst (xs ++ [x])))) := by
  simp only [metS, h, ex_lst']
where ex_lst' : ∀ {ds : List D} {K : List D → Prop}, (∃ es, some (MO.lst ds) = some (MO.lst es) ∧ K es) = K ds := ex_lst
theorem take_snoc {α : Type} {l : List α} {i : Nat} {d : α} (h : l[i]? = some d) : l.take (i + 1) = l.take i ++ [d] := by
  rw [List.take_succ, h]; rfl
/-- a whole list as it grows -/
theorem fgt_of {P : Rho → DS → Prop} {ρ ρ' : Rho} {S S' : DS} (l1 : LeR ρ' ρ) (l2 : LeS S' S) (h : P ρ' S') : fgt P ρ S := ⟨ρ', S', l1, l2, h⟩
theorem atI_l1 {pre : List D} {a b : D} : L2.atI (pre ++ [a, b]) (-1) = some b := atI_neg (i := 1) (by decide) (by simp) (by
  have e : (pre ++ [a, b]).length - 1 = pre.length + 1 := by simp
  rw [e, List.getElem?_append_right (by omega)]; simp)
theorem atI_l2 {pre : List D} {a b : D} : L2.atI (pre ++ [a, b]) (-2) = some a := atI_neg (i := 2) (by decide) (by simp) (by
  have e : (pre ++ [a, b]).length - 2 = pre.length := by simp
  rw [e, List.getElem?_append_right (by omega)]; simp)
theorem star_tup {ds : List D} {S : DS} {k : List D → Prop} : starS (.tup ds) S k = k ds := rfl
theorem star_ref {a : Addr} {S : DS} {k : List D → Prop} : starS (.ref a) S k = bindO (lstAt S a) k := rfl
/-! a text in two parts -/
def CSs.take : Nat → CSs → CSs
  | 0, _ => .nil
  | _ + 1, .nil => .nil
  | n + 1, .cons a r => .cons a (CSs.take n r)
def CSs.drop : Nat → CSs → CSs
  | 0, c => c
  | _ + 1, .nil => .nil
  | n + 1, .cons _ r => CSs.drop n r
theorem wpSs_cut {G : GS} {Γ : Ga} {E : EX} : ∀ (k : Nat) (c : CSs) {En : DEnds} {ρ : Rho} {S : DS}, wpSs G Γ c E En ρ S = wpSs G Γ (c.take k) E { En with nx := wpSs G Γ (c.drop k) E En } ρ S
  | 0, c, En, ρ, S => by simp only [CSs.take, CSs.drop, wpSs]
  | k + 1, .nil, En, ρ, S => by simp only [CSs.take, CSs.drop, wpSs]
  | k + 1, .cons a r, En, ρ, S => by
    simp only [CSs.take, CSs.drop, wpSs]
    congr 1
    congr 1
    funext ρ' S'
    exact wpSs_cut k r
theorem len_rep {α : Type} (xs : List α) : ∀ k : Nat, (List.replicate k xs).flatten.length = k * xs.length
  | 0 => by simp
  | k + 1 => by rw [List.replicate_succ, List.flatten_cons, List.length_append, len_rep xs k, Nat.succ_mul, Nat.add_comm]
/-! lambdas made -/
section
variable {S : DS} {f g : Addr} {j : Nat} {sn : List D} {x : Nat × List D} {p : Addr} {m : MO}
theorem addLam_same : (S.addLam f j sn).lam f = some (j, sn) := if_pos rfl
theorem addLam_old (h : S.lam g = some x) (hf : S.lam f = none) : (S.addLam f j sn).lam g = some x := by
  have : g ≠ f := fun z => by subst z; rw [h] at hf; cases hf
  exact (if_neg this).trans h
theorem put_lam : (S.put p m).lam = S.lam := rfl
theorem addLam_mem : (S.addLam f j sn).mem = S.mem := rfl
end
theorem Fr.bk {a : Addr} {S S1 S2 : DS} (x : Fr a S (S1.back S)) (y : Fr a S1 S2) : Fr a S (S2.back S) := ⟨fun b o n h => y.mem b o n (x.mem b o n h), rfl, fun h => y.at_ (x.at_ h)⟩
theorem Fr.bkm {a : Addr} {S S1 S2 : DS} (x : Fr a S (S1.back S)) (y : LeM S1 S2) : Fr a S (S2.back S) := ⟨fun b o n h => y b o (x.mem b o n h), rfl, fun h => y.dom (x.at_ h)⟩
theorem Pot.le {a : Addr} {S S' : DS} {n : Nat} (h : Pot S a n) (l : LeM S S') : Pot S' a n := by
  obtain ⟨o, m, k, e, r⟩ := h
  exact ⟨o, m, k, l _ _ e, r⟩
theorem boolsOf_rep {b : Bool} : ∀ k : Nat, boolsOf (List.replicate k (.bl b)) = some (List.replicate k b)
  | 0 => rfl
  | k + 1 => by
    rw [List.replicate_succ]
    show (boolsOf (List.replicate k (.bl b))).map _ = _
    rw [boolsOf_rep k]; rfl
/-- a loop whose measure falls -/
theorem whileS_ind {t : DTT} {body : DTS} {En : DEnds} (P : Nat → Rho → DS → Prop) (hs : ∀ n ρ S, P n ρ S → ∀ N : Rho → DS → Prop, (∀ m ρ' S', m < n → fgt (P m) ρ' S' → N ρ' S') → t ρ S fun k S1 => if k = true then body { nx := N, ct := N, bk := En.nx, rt := En.rt } ρ S1 else En.nx ρ S1) :
    ∀ {n : Nat} {ρ : Rho} {S : DS}, P n ρ S → ∃ m, whileS t body m En ρ S := by
  have go : ∀ (n k : Nat), k ≤ n → ∀ ρ S, P k ρ S → whileS t body (n + 1) En ρ S := by
    intro n
    induction n with
    | zero =>
      intro k hk ρ S h
      refine hs k ρ S h _ fun m ρ' S' hm _ => ?_
      omega
    | succ n ih =>
      intro k hk ρ S h
      exact hs k ρ S h _ fun m ρ' S' hm ⟨ρ2, S2, l1, l2, h2⟩ => ⟨ρ2, S2, l1, l2, ih m (by omega) ρ2 S2 h2⟩
  intro n ρ S h
  exact ⟨n + 1, go n n (Nat.le_refl n) ρ S h⟩
theorem met_pop {S : DS} {a : Addr} {xs : List D} (h : S.mem a = some (.lst xs)) : metTy "pop" (.ref a) S = some ("list", "list.pop") := by
  unfold metTy
  simp only [tyName, h]
theorem met_extend {S : DS} {a : Addr} {xs : List D} (h : S.mem a = some (.lst xs)) : metTy "extend" (.ref a) S = some ("list", "list.extend") := by
  unfold metTy
  simp only [tyName, h]
theorem mets_pop {S : DS} {a : Addr} {xs : List D} {y : D} {Q : QE} (h : S.mem a = some (.lst (xs ++ [y]))) (q : Q y (S.put a (.lst xs))) : metS "list.pop" (.ref a) [] S Q := ⟨xs, y, h, q⟩
theorem mets_extend {S : DS} {a b : Addr} {xs ys : List D} {Q : QE} (h : S.mem a = some (.lst xs)) (g : S.mem b = some (.lst ys)) (l : xs.length + ys.length ≤ sizeLine) (q : Q .non (S.put a (.lst (xs ++ ys)))) : metS "list.extend" (.ref a) [.ref b] S Q := ⟨xs, ys, h, g, l, q⟩
end DL

namespace DL
open PySem PySem.Spec PyProof.Rows L2
/-! ### what the head tells -/
def isLO (o : Obj) : Bool := match o with
  | ⟨.type c, _, _, _⟩ => decide (c = "list")
  | _ => false
def isTO (o : Obj) : Bool := match o with
  | ⟨.none, none, .fields vs, sl⟩ => vs.isEmpty && sl.isEmpty
  | _ => false
theorem isTO_ok {o : Obj} (h : isTO o = true) : o = tab0 := by
  unfold isTO at h
  split at h
  · rename_i vs sl
    simp only [Bool.and_eq_true, Array.isEmpty_iff] at h
    obtain ⟨rfl, rfl⟩ := h
    rfl
  · cases h
def objsG (g : Addr → Option Obj) (as : List Addr) : PySem.W.Frag := as.filterMap fun a => (g a).map fun o => (a, o)
def fragA (l : PySem.W.Frag) : PySem.W.Frag := l.filter fun p => !isLO p.2 && !isTO p.2
def fragT (l : PySem.W.Frag) : PySem.W.Frag := l.filter fun p => isTO p.2
theorem lookup_mem {α : Type} : ∀ {l : List (Addr × α)} {a : Addr} {o : α}, l.lookup a = some o → (a, o) ∈ l
  | [], _, _, h => by cases h
  | (b, x) :: l, a, o, h => by
    rw [List.lookup_cons] at h
    cases q : a == b with
    | true => rw [q] at h; cases h; rw [beq_iff_eq.mp q]; exact List.mem_cons_self
    | false => rw [q] at h; exact List.mem_cons_of_mem _ (lookup_mem h)
theorem objsG_mem {g : Addr → Option Obj} {as : List Addr} {a : Addr} {o : Obj} (h : (a, o) ∈ objsG g as) : g a = some o := by
  obtain ⟨b, _, e⟩ := List.mem_filterMap.mp h
  cases q : g b with
  | none => rw [q] at e; cases e
  | some x => rw [q] at e; cases e; exact q
theorem fragA_in {h : Heap} {as : List Addr} : (fragA (objsG h.get? as)).In h := fun _ _ e => objsG_mem (List.mem_filter.mp (lookup_mem e)).1
theorem fragT_in {h : Heap} {as : List Addr} : (fragT (objsG h.get? as)).In h := fun _ _ e => objsG_mem (List.mem_filter.mp (lookup_mem e)).1
/-- neither lists nor tables -/
def Pure (K : PySem.W.Frag) : Prop := ∀ a o, K.lookup a = some o → isLO o = false ∧ isTO o = false
def Tbls (K : PySem.W.Frag) : Prop := ∀ a o, K.lookup a = some o → o = tab0
theorem fragA_pure {l : PySem.W.Frag} : Pure (fragA l) := fun _ _ e => by
  have := (List.mem_filter.mp (lookup_mem e)).2
  simpa using this
theorem fragT_tbls {l : PySem.W.Frag} : Tbls (fragT l) := fun _ _ e => isTO_ok (List.mem_filter.mp (lookup_mem e)).2
/-- what stands within reach -/
def asL (g : Addr → Option Obj) : Nat → List Addr
  | 0 => [mainGlobals, cStatics]
  | n + 1 => He.growD g (asL g n)

/-- a program's head -/
structure HdD where
  fns : List DefT
  exs : List Str
  subs : List (Str × Str)
  vals : List (Str × D)
  blts : List Str
  tabs : List Str
  ini : Arguments × List Stmt × Scope
  file : Str
def HdD.root (X : HdD) : Str := X.exs.headD ""
def HdD.nrm (X : HdD) (x : Str) : Str := if X.exs.contains x then x else X.root
def HdD.cl (X : HdD) (K : PySem.W.Frag) (x : Str) : Addr := He.ga K (X.nrm x)
def HdD.sub (X : HdD) (n m : Str) : Bool := X.subs.contains (X.nrm n, X.nrm m)
def isNoneV : Value → Bool
  | .none => true
  | _ => false
theorem isNoneV_ok {v : Value} (h : isNoneV v = true) : v = .none := by
  cases v <;> first | rfl | cases h
def fdAt (K : PySem.W.Frag) (x : Str) : FuncData := match K.lookup (He.ga K x) with
  | some ⟨_, _, .func fd, _⟩ => fd
  | _ => default
def fnB (K : PySem.W.Frag) (d : DefT) : Bool := He.eqO (PySem.W.nsIn K mainGlobals d.name) (some (some (.ref (He.ga K d.name)))) && PySem.W.keepIn K (.ref (He.ga K d.name)) && (match K.lookup (He.ga K d.name) with
  | some ⟨_, _, .func fd, _⟩ => PySem.W.codeIn K fd.code d.name && isNoneV fd.defaults
  | _ => false)
def DefT.val (d : DefT) : He.FnW := some (d.name, d.name, d.args, .stmts d.body, d.sc, mainGlobals, [], builtinsNs)
theorem fn_said {K : PySem.W.Frag} {d : DefT} (e : He.fnW K (d.name, none) = d.val) (c : fnB K d = true) :
    ∃ oc od osl kV doc pm an cdv ct, K.lookup (He.ga K d.name) = some ⟨oc, od, .func (PySem.W.fnOf d.name d.name d.args d.body d.sc .none kV doc pm an cdv ct), osl⟩ ∧ PySem.W.codeIn K cdv d.name = true ∧ fdAt K d.name = PySem.W.fnOf d.name d.name d.args d.body d.sc .none kV doc pm an cdv ct ∧
      PySem.W.nsIn K mainGlobals d.name = some (some (.ref (He.ga K d.name))) ∧ PySem.W.keepIn K (.ref (He.ga K d.name)) = true := by
  unfold fnB at c
  simp only [Bool.and_eq_true] at c
  obtain ⟨⟨c1, c2⟩, c3⟩ := c
  unfold He.fnW at e
  have ea : He.fAd K (d.name, none) = He.ga K d.name := rfl
  rw [ea] at e
  unfold fdAt
  cases q : K.lookup (He.ga K d.name) with
  | none => rw [q] at c3; cases c3
  | some o =>
    obtain ⟨oc, od, dt, osl⟩ := o
    rw [q] at c3 e
    cases dt with
    | func fd =>
      obtain ⟨n1, n2, n3, n4, n5, n6, n7, n8, n9, n10, n11, n12, n13, n14, n15⟩ := fd
      have e2 : (some (n1, n2, n3, n4, n5, n6, n7, n15) : He.FnW) = some (d.name, d.name, d.args, .stmts d.body, d.sc, mainGlobals, [], builtinsNs) := e
      simp only [Option.some.injEq, Prod.mk.injEq] at e2
      obtain ⟨h1, h2, h3, h4, h5, h6, h7, h8⟩ := e2
      simp only [Bool.and_eq_true] at c3
      have h9 := isNoneV_ok c3.2
      have h9 : n8 = .none := h9
      subst h1 h2 h3 h4 h5 h6 h7 h8 h9
      exact ⟨oc, od, osl, n9, n10, n11, n12, n13, n14, rfl, c3.1, rfl, He.eqO_ok c1, c2⟩
    | _ => cases c3
/-! constants -/
mutual
def datB (K : PySem.W.Frag) : D → Value → Bool
  | .non, u => isNoneV u
  | .bl b, u => (match u with | .bool c => b == c | _ => false)
  | .int i, u => (match u with | .int j _ => decide (i = j) | _ => false)
  | .str x, u => (match u with | .str y _ => decide (x = y) | _ => false)
  | .tup ds, u => (match u with
    | .ref a => (match K.lookup a with
      | some ⟨.type c, _, .seq its _, _⟩ => decide (c = "tuple") && decide (its.size ≤ sizeLine) && datsB K ds its.toList
      | _ => false)
    | _ => false)
  | _, _ => false
def datsB (K : PySem.W.Frag) : List D → List Value → Bool
  | [], us => us.isEmpty
  | d :: ds, us => (match us with
    | u :: us => datB K d u && datsB K ds us
    | [] => false)
end
mutual
theorem datB_ok {K : PySem.W.Frag} {G : GS} : ∀ (d : D) (u : Value), datB K d u = true → ∃ v, RelV v u ∧ ∀ H, Dat K G H d v
  | .non, u, h => by
    have h : isNoneV u = true := by simpa only [datB] using h
    rw [isNoneV_ok h]; exact ⟨.non, rfl, fun _ => rfl⟩
  | .bl b, u, h => by
    unfold datB at h
    split at h
    · rw [eq_of_beq h]; exact ⟨.bl _, rfl, fun _ => rfl⟩
    · cases h
  | .int i, u, h => by
    unfold datB at h
    split at h
    · rw [← of_decide_eq_true h]; exact ⟨.int i, ⟨_, rfl⟩, fun _ => rfl⟩
    · cases h
  | .str x, u, h => by
    unfold datB at h
    split at h
    · rw [← of_decide_eq_true h]; exact ⟨.str x, ⟨_, rfl⟩, fun _ => rfl⟩
    · cases h
  | .tup ds, u, h => by
    unfold datB at h
    split at h
    · rename_i a
      split at h
      · rename_i c od its n sl q
        simp only [Bool.and_eq_true, decide_eq_true_eq] at h
        obtain ⟨⟨rfl, h2⟩, h3⟩ := h
        obtain ⟨vs, r, hd⟩ := datsB_ok ds its.toList h3
        exact ⟨.ref a, rfl, fun H => Dat.tup (.inr ⟨_, its, n, q, rfl, rfl, h2, r⟩) (hd H)⟩
      · cases h
    · cases h
  | .ref _, u, h => by unfold datB at h; cases h
  | .ty _, u, h => by unfold datB at h; cases h
  | .cls _, u, h => by unfold datB at h; cases h
  | .exc _ _, u, h => by unfold datB at h; cases h
theorem datsB_ok {K : PySem.W.Frag} {G : GS} : ∀ (ds : List D) (us : List Value), datsB K ds us = true → ∃ vs, Vals vs us ∧ ∀ H, Dats K G H ds vs
  | [], us, h => by
    unfold datsB at h
    rw [List.isEmpty_iff.mp h]; exact ⟨[], .nil, fun _ => rfl⟩
  | d :: ds, us, h => by
    unfold datsB at h
    split at h
    · rename_i u us
      simp only [Bool.and_eq_true] at h
      obtain ⟨v, r, hv⟩ := datB_ok d u h.1
      obtain ⟨vs, rs, hvs⟩ := datsB_ok ds us h.2
      exact ⟨v :: vs, .cons r rs, fun H => Dats.cons (hv H) (hvs H)⟩
    · cases h
end
def valB (K : PySem.W.Frag) (p : Str × D) : Bool := match PySem.W.nsIn K mainGlobals p.1 with
  | some (some u) => datB K p.2 u
  | _ => false
/-! tables of code -/
def codeAt (K : PySem.W.Frag) (x : Str) : Addr := match (fdAt K x).code with
  | .ref c => c
  | _ => 0
def tabAt (K : PySem.W.Frag) (x : Str) : Addr := match K.lookup (codeAt K x) with
  | some ⟨_, _, .fields vs, _⟩ => (match vs.getD 11 .none with
    | .ref P => P
    | _ => 0)
  | _ => 0
def tabB (K K2 : PySem.W.Frag) (x : Str) : Bool := (match (fdAt K x).code with
  | .ref c => decide (c = codeAt K x)
  | _ => false) && (match K.lookup (codeAt K x) with
  | some ⟨.type t, _, .fields vs, _⟩ => decide (t = "code") && decide (11 < vs.size) && (match vs.getD 11 .none with | .ref P => decide (P = tabAt K x) | _ => false) && (match vs.getD 18 .none with | .str _ _ => true | _ => false) && (match vs.getD 7 .none with | .int _ _ => true | _ => false) &&
    (match vs.getD 9 .none with | .bool _ => true | _ => false) && (match vs.getD 10 .none with | .int _ _ => true | _ => false)
  | _ => false) && decide (codeAt K x ≠ tabAt K x) && (K2.lookup (tabAt K x)).isSome
theorem tabB_ok {K K2 : PySem.W.Frag} {h : Heap} (KX : K.In h) (KY : K2.In h) (pu : Pure K) (tb : Tbls K2) {x : Str} (e : tabB K K2 x = true) : (fdAt K x).code = .ref (codeAt K x) ∧ PySem.W.CodeHd h (codeAt K x) (tabAt K x) ∧ h.get? (tabAt K x) = some tab0 ∧ K.lookup (tabAt K x) = none := by
  unfold tabB at e
  simp only [Bool.and_eq_true] at e
  obtain ⟨⟨⟨e1, e2⟩, e3⟩, e4⟩ := e
  have hP : h.get? (tabAt K x) = some tab0 := by
    cases q : K2.lookup (tabAt K x) with
    | none => rw [q] at e4; cases e4
    | some o => rw [KY _ _ q, tb _ _ q]
  refine ⟨?_, ?_, hP, ?_⟩
  · split at e1
    · rename_i c q
      rw [q, of_decide_eq_true e1]
    · cases e1
  · split at e2
    · rename_i t od vs sl q
      simp only [Bool.and_eq_true, decide_eq_true_eq] at e2
      obtain ⟨⟨⟨⟨⟨⟨rfl, f1⟩, f2⟩, f3⟩, f4⟩, f5⟩, f6⟩ := e2
      split at f2
      · rename_i P qP
        have : P = tabAt K x := of_decide_eq_true f2
        subst this
        split at f3
        · rename_i file tf q3
          split at f4
          · rename_i fl tg q4
            split at f5
            · rename_i inF q5
              split at f6
              · rename_i tx tt q6
                refine ⟨_, vs, file, tf, fl, tg, inF, tx, tt, KX _ _ q, rfl, rfl, ?_, qP, q3, q4, q5, q6, of_decide_eq_true e3⟩
                have : vs.getD 11 .none = vs[11] := by simp [Array.getD, f1]
                rw [Array.getElem?_eq_getElem f1, ← this, qP]
              · cases f6
            · cases f5
          · cases f4
        · cases f3
      · cases f2
    · cases e2
  · cases q : K.lookup (tabAt K x) with
    | none => rfl
    | some o =>
      have h1 := KX _ _ q
      rw [hP] at h1
      have h2 := (pu _ _ q).2
      rw [← Option.some.inj h1] at h2
      exact absurd h2 (by decide)
/-! the classes of errors -/
abbrev IniV : Type := Option (Str × Str × Arguments × FuncBody × Scope × Addr × List Str × Addr)
def iniA (K : PySem.W.Frag) (r : Str) : Addr := He.ma K (He.ga K r) "__init__"
def iniC (K : PySem.W.Frag) (r : Str) : Addr := match K.lookup (iniA K r) with
  | some ⟨_, _, .func fd, _⟩ => (match fd.closure with
    | [(_, cc)] => cc
    | _ => 0)
  | _ => 0
def iniW (K : PySem.W.Frag) (r : Str) : IniV := match K.lookup (iniA K r) with
  | some ⟨_, _, .func fd, _⟩ => some (fd.name, fd.qualname, fd.params, fd.body, fd.scope, fd.globals, fd.closure.map (·.1), fd.builtins)
  | _ => none
def iniVal (i : Arguments × List Stmt × Scope) : IniV := some ("__init__", "FenceError.__init__", i.1, .stmts i.2.1, i.2.2, mainGlobals, ["__class__"], builtinsNs)
def fileB (K : PySem.W.Frag) (v : Value) (file : Str) : Bool := match v with
  | .ref cda => (match K.lookup cda with
    | some ⟨_, _, .fields vs, _⟩ => decide (2 < vs.size) && (match vs.getD 2 .none with
      | .str f _ => decide (f = file)
      | _ => false)
    | _ => false)
  | _ => false
theorem fileB_ok {K : PySem.W.Frag} {v : Value} {file : Str} (h : fileB K v file = true) : ∃ cda ccl cdd vs ccs tf, v = .ref cda ∧ K.lookup cda = some ⟨ccl, cdd, .fields vs, ccs⟩ ∧ vs[2]? = some (.str file tf) := by
  unfold fileB at h
  split at h
  · rename_i cda
    split at h
    · rename_i ccl cdd vs ccs qc
      simp only [Bool.and_eq_true, decide_eq_true_eq] at h
      obtain ⟨c5, c6⟩ := h
      split at c6
      · rename_i f tf qf
        have : f = file := of_decide_eq_true c6
        subst this
        refine ⟨cda, ccl, cdd, vs, ccs, tf, rfl, qc, ?_⟩
        have : vs.getD 2 .none = vs[2] := by simp [Array.getD, c5]
        rw [Array.getElem?_eq_getElem c5, ← this, qf]
      · cases c6
    · cases h
  · cases h
def iniB (K : PySem.W.Frag) (r file : Str) : Bool := (match K.lookup (iniA K r) with
  | some ⟨_, _, .func fd, _⟩ => isNoneV fd.defaults && isNoneV fd.kwdefaults && PySem.W.codeIn K fd.code "FenceError.__init__" && fileB K fd.code file
  | _ => false) && (match K.lookup (iniC K r) with
    | some ⟨_, _, .cell (some (.ref D)), _⟩ => decide (D = He.ga K r)
    | _ => false) && (PySem.W.clsIn K (He.ga K r)).isSome && He.eqO (PySem.W.nsIn K mainGlobals "super") (some none) && He.eqO (PySem.W.nsIn K cStatics "thirdparty.any") (some none) && He.eqO (PySem.W.nsIn K cStatics "sys.int_max_str_digits") (some none)
/-- the text of __init__ -/
def iniT (i : Arguments × List Stmt × Scope) : Bool := (match i.1 with
  | ⟨[], [⟨a, none, _⟩, ⟨b, none, _⟩], none, [], [], none, []⟩ => decide (a = ("self" : Str)) && decide (b = ("value" : Str))
  | _ => false) && (match i.2.1 with
  | [.Expr (.Call (.Attribute (.Call (.Name a _) [] [] _) b q3) [.Name c _] [] q5) _, .Assign [.Attribute (.Name d _) e _] (.Name f _) _] => decide (a = ("super" : Str)) && decide (b = ("__init__" : Str)) && decide (c = ("value" : Str)) && decide (d = ("self" : Str)) && decide (e = ("value" : Str)) && decide (f = ("value" : Str)) && (q3.endLine == q5.line)
  | _ => false) && decide (i.2.2.kind = .function) && !i.2.2.isCoroutine && !i.2.2.isGenerator && i.2.2.names.all (fun x => !(x.2 == .cell)) && (i.2.2.names.lookup ("self" : Str) == some .local) && (i.2.2.names.lookup ("value" : Str) == some .local) &&
  (i.2.2.names.lookup ("super" : Str) == some .globalImplicit) && (i.2.2.names.lookup ("__class__" : Str) == some .free)
theorem iniT_ok {i : Arguments × List Stmt × Scope} (h : iniT i = true) : ∃ p1 p2 q1 q2 q3 q4 q5 q6 r1 r2 r3 r4, i.1 = DX.iA p1 p2 ∧ i.2.1 = DX.iB q1 q2 q3 q4 q5 q6 r1 r2 r3 r4 ∧ (q3.endLine == q5.line) = true ∧ DX.ScI i.2.2 := by
  unfold iniT at h
  simp only [Bool.and_eq_true, decide_eq_true_eq, Bool.not_eq_true', beq_iff_eq, List.all_eq_true] at h
  obtain ⟨⟨⟨⟨⟨⟨⟨⟨⟨h1, h2⟩, h3⟩, h4⟩, h5⟩, h6⟩, h7⟩, h8⟩, h9⟩, h10⟩ := h
  split at h1
  · rename_i e1
    split at h2
    · rename_i e2
      simp only [Bool.and_eq_true, decide_eq_true_eq] at h1 h2
      obtain ⟨rfl, rfl⟩ := h1
      obtain ⟨⟨⟨⟨⟨⟨rfl, rfl⟩, rfl⟩, rfl⟩, rfl⟩, rfl⟩, hq⟩ := h2
      refine ⟨_, _, _, _, _, _, _, _, _, _, _, _, e1, e2, hq, ⟨h3, h4, h5, fun x hx => ?_, h7, h8, h9, h10⟩⟩
      have := h6 x hx
      intro z
      rw [z] at this
      cases this
    · cases h2
  · cases h1
def clsB (K : PySem.W.Frag) (C : Addr) : Bool := match K.lookup C with
  | some ⟨.type t, _, .cls cd, sl⟩ => decide (t = "type") && (match cd.mro, sl.toList with
    | .ref C' :: bm, [_, _, _, _, some (.builtin n), _] => decide (C' = C) && decide (n = "ValueError.__new__") && !cd.hasDel && cd.hasDict && HandSPX.refsVE bm
    | _, _ => false)
  | _ => false
theorem clsB_ok {K : PySem.W.Frag} {C : Addr} (h : clsB K C = true) : ∃ nm q N bs bm sn sub ab col dd k0 k1 k2 k3 k5, K.lookup C = some (excClassObj nm q C N bs bm true sn sub ab col dd k0 k1 k2 k3 k5 "ValueError.__new__") ∧ HandSPX.refsVE bm = true := by
  unfold clsB at h
  split at h
  · rename_i t dd cd sl q
    simp only [Bool.and_eq_true, decide_eq_true_eq] at h
    obtain ⟨rfl, h⟩ := h
    split at h
    · rename_i C' bm k0 k1 k2 k3 n k5 hm hs
      simp only [Bool.and_eq_true, decide_eq_true_eq, Bool.not_eq_true'] at h
      obtain ⟨⟨⟨⟨rfl, rfl⟩, h1⟩, h2⟩, h3⟩ := h
      obtain ⟨nm, bs, mro, ns, qn, hd, sn, sub, ab, col, del⟩ := cd
      have e1 : mro = .ref C' :: bm := hm
      have e2 : del = false := h1
      have e3 : hd = true := h2
      have e4 : sl = #[k0, k1, k2, k3, some (.builtin "ValueError.__new__"), k5] := by
        obtain ⟨l⟩ := sl
        have : l = [k0, k1, k2, k3, some (.builtin "ValueError.__new__"), k5] := hs
        rw [this]
      subst e1 e2 e3 e4
      exact ⟨_, _, _, _, _, _, _, _, _, _, _, _, _, _, _, q, h3⟩
    · cases h
  · cases h
def fndB (K : PySem.W.Frag) (C : Addr) (x : Str) (b : String) : Bool := He.eqO (PySem.W.findIn K (.ref C) x) (some (some (.builtin b)))
/-- a class of errors, the root's __init__ at fI -/
def ownB (K : PySem.W.Frag) (r x : Str) : Bool := clsB K (He.ga K x) && fndB K (He.ga K x) "__setattr__" "object.__setattr__" && fndB K (He.ga K x) "__getattribute__" "BaseException.__getattribute__" && He.eqO (PySem.W.findIn K (.ref (He.ga K x)) "__getattr__") (some none) &&
  He.eqO (PySem.W.findIn K (.ref (He.ga K x)) "value") (some none) && He.eqO (PySem.W.findIn K (.ref (He.ga K x)) "__init__") (some (some (.ref (iniA K r)))) && decide (PySem.W.typeIn K (.ref (iniA K r)) = some (.type "function")) && PySem.W.keepIn K (.ref (He.ga K x)) &&
  decide (PySem.W.subIn K (.ref (He.ga K x)) (.type "BaseException") = some true) && decide (PySem.W.subIn K (.ref (He.ga K x)) (.type "ValueError") = some true) && decide (PySem.W.typeIn K (.ref (He.ga K x)) = some (.type "type")) && PySem.W.hasDictIn K (He.ga K x) &&
  decide (PySem.W.mroIn K (He.ga K x) (.ref (He.ga K r)) = some true) && decide (PySem.W.ks_superIn K (He.ga K x) (He.ga K r) "__init__" = some (some (.builtin "ValueError.__init__"))) && fndB K (He.ga K x) "__class__" "object.__class__" &&
  decide (PySem.W.mroIn K (He.ga K x) (.type "object") = some true) && He.eqO (PySem.W.nsIn K mainGlobals x) (some (some (.ref (He.ga K x)))) && decide (PySem.W.kitOne K (.ref (He.ga K x)) (.type "ValueError") = some true)
theorem ownB_ok {K : PySem.W.Frag} {r x : Str} (h : ownB K r x = true) : DX.OwnTxt K (He.ga K r) (iniA K r) (He.ga K x) ∧ PySem.W.findIn K (.ref (He.ga K x)) "__class__" = some (some (.builtin "object.__class__")) ∧ PySem.W.mroIn K (He.ga K x) (.type "object") = some true ∧ PySem.W.nsIn K mainGlobals x = some (some (.ref (He.ga K x))) ∧ PySem.W.kitOne K (.ref (He.ga K x)) (.type "ValueError") = some true := by
  unfold ownB fndB at h
  simp only [Bool.and_eq_true, decide_eq_true_eq] at h
  obtain ⟨⟨⟨⟨⟨⟨⟨⟨⟨⟨⟨⟨⟨⟨⟨⟨⟨h1, h2⟩, h3⟩, h4⟩, h5⟩, h6⟩, h7⟩, h8⟩, h9⟩, h10⟩, h11⟩, h12⟩, h13⟩, h14⟩, h15⟩, h16⟩, h17⟩, h18⟩ := h
  exact ⟨⟨clsB_ok h1, He.eqO_ok h2, He.eqO_ok h3, He.eqO_ok h4, He.eqO_ok h5, He.eqO_ok h6, h7, h8, h9, h10, h11, h12, h13, h14⟩, He.eqO_ok h15, h16, He.eqO_ok h17, h18⟩
theorem fen_said {P : Program} {K : PySem.W.Frag} {h : Heap} {mg : Str → Option Value} {r file : Str} {i : Arguments × List Stmt × Scope} (KX : K.In h) (G : h.Ns mainGlobals mg) (e : iniW K r = iniVal i) (b : iniB K r file = true) (t : iniT i = true) (hf : ((P.main.file : Str) == file) = true)
    (ht : (P.main.scope.names.lookup ("super" : Str)).isSome = false) : DX.FenTxt P K mg (He.ga K r) (iniA K r) (iniC K r) ∧ PySem.W.nsIn K cStatics "sys.int_max_str_digits" = some none := by
  unfold iniB at b
  simp only [Bool.and_eq_true] at b
  obtain ⟨⟨⟨⟨⟨b1, b2⟩, b3⟩, b4⟩, b5⟩, b6⟩ := b
  obtain ⟨p1, p2, q1, q2, q3, q4, q5, q6, r1, r2, r3, r4, t1, t2, t3, t4⟩ := iniT_ok t
  refine ⟨⟨?_, ?_, Option.isSome_iff_exists.mp b3, PySem.W.mg_none_of KX G (He.eqO_ok b4), ht, He.eqO_ok b5⟩, He.eqO_ok b6⟩
  · unfold iniW at e
    have ec : iniC K r = (match K.lookup (iniA K r) with
      | some ⟨_, _, .func fd, _⟩ => (match fd.closure with
        | [(_, cc)] => cc
        | _ => 0)
      | _ => 0) := rfl
    cases q : K.lookup (iniA K r) with
    | none => rw [q] at b1; cases b1
    | some o =>
      obtain ⟨oc, od, dt, osl⟩ := o
      rw [q] at b1 e ec
      cases dt with
      | func fd =>
        obtain ⟨n1, n2, n3, n4, n5, n6, n7, n8, n9, n10, n11, n12, n13, n14, n15⟩ := fd
        have e2 : (some (n1, n2, n3, n4, n5, n6, n7.map (·.1), n15) : IniV) = iniVal i := e
        unfold iniVal at e2
        simp only [Option.some.injEq, Prod.mk.injEq] at e2
        obtain ⟨h1, h2, h3, h4, h5, h6, h7, h8⟩ := e2
        simp only [Bool.and_eq_true] at b1
        obtain ⟨⟨⟨c1, c2⟩, c3⟩, c4⟩ := b1
        have c1 : n8 = .none := isNoneV_ok c1
        have c2 : n9 = .none := isNoneV_ok c2
        match n7, h7 with
        | [(x, cc)], h7 =>
          have h7 : x = "__class__" := by simpa using h7
          have ec : iniC K r = cc := ec
          have c4 : fileB K n13 file = true := c4
          obtain ⟨cda, ccl, cdd, vs, ccs, tf, e13, qc, qv⟩ := fileB_ok c4
          rw [t1] at h3
          rw [t2] at h4
          subst h1 h2 h3 h4 h5 h6 h7 h8 c1 c2 ec e13
          exact ⟨oc, od, n10, n11, n12, cda, n14, osl, p1, p2, q1, q2, q3, q4, q5, q6, r1, r2, r3, r4, i.2.2, ccl, cdd, vs, ccs, file, tf, t4, rfl, c3, qc, qv, hf, t3, trivial⟩
        | [], h7 => simp at h7
        | _ :: _ :: _, h7 => simp at h7
      | _ => cases b1
  · split at b2
    · rename_i cl cld D csl q
      rw [of_decide_eq_true b2] at q
      exact ⟨_, _, _, q⟩
    · cases b2
/-! all of it -/
def HdD.pairs (X : HdD) : List (Str × Str) := X.exs.flatMap fun n => X.exs.map fun m => (n, m)
def pairB (X : HdD) (K : PySem.W.Frag) (p : Str × Str) : Bool := decide (PySem.W.kitOne K (.ref (He.ga K p.1)) (.ref (He.ga K p.2)) = some (X.subs.contains p)) && (!X.subs.contains p || decide (PySem.W.exmOne K (.ref (He.ga K p.1)) (.ref (He.ga K p.2)) = some true))
def HdD.okB (X : HdD) (K K2 : PySem.W.Frag) : Bool := X.fns.all (fnB K) && X.vals.all (valB K) && X.blts.all (fun x => He.eqO (PySem.W.nsIn K mainGlobals x) (some none)) && X.tabs.all (tabB K K2) && iniB K X.root X.file && X.exs.all (ownB K X.root) && X.pairs.all (pairB X K) &&
  decide (PySem.W.specialIn K (.builtin "object.__class__") "__get__" = some (some (.builtin "getset_descriptor.__get__"))) && decide (PySem.W.takesIn K (.builtin "object.__class__") = some true) && decide ((X.tabs.map (tabAt K)).Nodup)
abbrev HdO : Type := Bool × List He.FnW × IniV
def HdD.obs (X : HdD) (g : Addr → Option Obj) : HdO :=
  let l := objsG g (asL g 4)
  let K := fragA l
  (X.okB K (fragT l), X.fns.map fun d => He.fnW K (d.name, none), iniW K X.root)
def HdD.val (X : HdD) : HdO := (true, X.fns.map DefT.val, iniVal X.ini)
structure HdSaid (X : HdD) (K K2 : PySem.W.Frag) : Prop where
  ok : X.okB K K2 = true
  fn : X.fns.map (fun d => He.fnW K (d.name, none)) = X.fns.map DefT.val
  ini : iniW K X.root = iniVal X.ini
  pure : Pure K
  tbls : Tbls K2
def HdD.hook (X : HdD) : PySem.W.Hook where
  α := HdO
  obs := fun s => X.obs s.heap.get?
  val := fun _ => X.val
  says := fun _ h => ∃ K K2 : PySem.W.Frag, K.In h ∧ K2.In h ∧ HdSaid X K K2
  of := fun _ s e => by
    have e : (X.okB (fragA (objsG s.heap.get? (asL s.heap.get? 4))) (fragT (objsG s.heap.get? (asL s.heap.get? 4))), X.fns.map (fun d => He.fnW (fragA (objsG s.heap.get? (asL s.heap.get? 4))) (d.name, none)), iniW (fragA (objsG s.heap.get? (asL s.heap.get? 4))) X.root) = (true, X.fns.map DefT.val, iniVal X.ini) := e
    simp only [Prod.mk.injEq] at e
    exact ⟨_, _, fragA_in, fragT_in, e.1, e.2.1, e.2.2, fragA_pure, fragT_tbls⟩
  keeps := fun _ _ _ ⟨K, K2, h1, h2, c⟩ k => ⟨K, K2, PySem.W.Frag.In.keeps h1 k, PySem.W.Frag.In.keeps h2 k, c⟩
theorem HdD.obs_eq (X : HdD) (s : PySem.W.SharedT) : X.obs (HandSHeadRun.getT s) = X.hook.obs s.abs := by
  have e : HandSHeadRun.getT s = s.abs.heap.get? := funext (HandSHeadRun.getT_eq s)
  rw [e]; rfl
def lamQ (x : Str) : Str := x ++ ".<locals>." ++ "<lambda>"
def HdD.gs (X : HdD) (K : PySem.W.Frag) (L : List LamD) : GS := ⟨X.cl K, X.sub, L, X.tabs.map fun x => (tabAt K x, lamQ x)⟩
end DL

namespace DL
open PySem PySem.Spec PyProof.Rows L2
/-- a def's text keeps the promise C -/
abbrev Keeps (G : GS) (Γ : Ga) (F : FnCk) (C : FC) : Prop := ∀ ds S0 Q E, C ds S0 Q E → wpSs G Γ F.core (eE S0 E) { nx := fun _ => fgtQ S0 Q .non, rt := fgtQ S0 Q } (startR F.C.N ds) S0
abbrev LKeeps (G : GS) (Γ : Ga) (F : LmCk) (C : FC) : Prop := ∀ ds S0 Q E, C ds S0 Q E → wpE G Γ F.core (eE S0 E) (startR F.C.N ds) S0 (fgtQ S0 Q)
def CF : FC := fun _ _ _ _ => False
def gaOf (X : HdD) (cs : List FC) (lc : Nat → Option (Nat × FC)) : Ga := ⟨fun j => cs.getD j CF, fun j => ((X.vals[j]?).map (·.2)).getD .non, lc, X.exs⟩
def psOf (d : DefT) : List Str := d.args.args.map (·.arg)
def isBoot (x : Str) (f : Value → Bool) : Bool := match bootBuiltins x with
  | some v => f v
  | none => false
/-- the table of names is right -/
def giB (X : HdD) (p : Str × GI) : Bool := !(p.1 == ("__debug__" : Str)) && (match p.2 with
  | .fn j ps => (match X.fns[j]? with
    | some d => decide (d.name = p.1) && (plainA d.args && psOf d == ps && nodupB ps)
    | none => false)
  | .val j => (match X.vals[j]? with
    | some q => decide (q.1 = p.1)
    | none => false)
  | .cls => X.exs.contains p.1
  | .exc => X.exs.contains p.1
  | .blt id => X.blts.contains p.1 && isBoot p.1 (fun v => match v with | .builtin i => decide (i = id) | _ => false) && decide (p.1 ≠ "__name__")
  | .bty T => X.blts.contains p.1 && isBoot p.1 (fun v => match v with | .type i => decide (i = T) | _ => false) && decide (p.1 ≠ "__name__"))
def tabTB (X : HdD) (T : List (Str × GI)) : Bool := T.all (giB X)
theorem lookupS_mem {α : Type} : ∀ {l : List (Str × α)} {a : Str} {o : α}, l.lookup a = some o → (a, o) ∈ l
  | [], _, _, h => by cases h
  | (b, x) :: l, a, o, h => by
    rw [List.lookup_cons] at h
    cases q : a == b with
    | true => rw [q] at h; cases h; rw [eq_of_beq q]; exact List.mem_cons_self
    | false => rw [q] at h; exact List.mem_cons_of_mem _ (lookupS_mem h)
/-- what stands fast -/
structure Bas (X : HdD) (K K2 : PySem.W.Frag) (P : Program) (mg : Str → Option Value) (base : Heap) : Prop where
  said : HdSaid X K K2
  KX : K.In base
  ns : base.Ns mainGlobals mg
  nod : base.NoDigits
  tb : ∀ x ∈ X.tabs, LamX.TabB base mg (codeAt K x) (tabAt K x) ∧ (fdAt K x).code = .ref (codeAt K x)
  ini : iniT X.ini = true
  file : ((P.main.file : Str) == X.file) = true
  sup : (P.main.scope.names.lookup ("super" : Str)).isSome = false
  exs : X.exs.isEmpty = false
section
variable {X : HdD} {K K2 : PySem.W.Frag} {P : Program} {mg : Str → Option Value} {base : Heap} {L : List LamD} {w : World} {T : List (Str × GI)}
theorem Bas.parts (b : Bas X K K2 P mg base) : (∀ d ∈ X.fns, fnB K d = true) ∧ (∀ p ∈ X.vals, valB K p = true) ∧ (∀ x ∈ X.blts, PySem.W.nsIn K mainGlobals x = some none) ∧ (∀ x ∈ X.exs, ownB K X.root x = true) ∧ (∀ p ∈ X.pairs, pairB X K p = true) ∧
    PySem.W.specialIn K (.builtin "object.__class__") "__get__" = some (some (.builtin "getset_descriptor.__get__")) ∧ PySem.W.takesIn K (.builtin "object.__class__") = some true ∧ (X.tabs.map (tabAt K)).Nodup ∧ iniB K X.root X.file = true := by
  have h := b.said.ok
  unfold HdD.okB at h
  simp only [Bool.and_eq_true, decide_eq_true_eq, List.all_eq_true] at h
  obtain ⟨⟨⟨⟨⟨⟨⟨⟨⟨h1, h2⟩, h3⟩, h4⟩, h5⟩, h6⟩, h7⟩, h8⟩, h9⟩, h10⟩ := h
  exact ⟨h1, h2, fun x hx => He.eqO_ok (h3 x hx), h6, h7, h8, h9, h10, h5⟩
theorem Bas.root_mem (b : Bas X K K2 P mg base) : X.root ∈ X.exs := by
  unfold HdD.root
  have := b.exs
  cases q : X.exs with
  | nil => rw [q] at this; cases this
  | cons x xs => simp
theorem Bas.nrm_mem (b : Bas X K K2 P mg base) (x : Str) : X.nrm x ∈ X.exs := by
  unfold HdD.nrm
  split
  · rename_i h; exact List.contains_iff_mem.mp h
  · exact b.root_mem
theorem nrm_same {x : Str} (h : x ∈ X.exs) : X.nrm x = x := by
  unfold HdD.nrm
  rw [if_pos (List.contains_iff_mem.mpr h)]
theorem Bas.pair (b : Bas X K K2 P mg base) (n m : Str) : pairB X K (X.nrm n, X.nrm m) = true := b.parts.2.2.2.2.1 _ (by
  unfold HdD.pairs
  exact List.mem_flatMap.mpr ⟨_, b.nrm_mem n, List.mem_map.mpr ⟨_, b.nrm_mem m, rfl⟩⟩)
theorem Bas.excs (b : Bas X K K2 P mg base) : ExcsOk K (X.gs K L) X.exs := by
  obtain ⟨_, _, _, p4, p5, p6, p7, _⟩ := b.parts
  refine ⟨fun n hn => ?_, fun n hn m r e => ?_, fun n hn => ?_⟩
  · obtain ⟨o, c1, c2, _, _⟩ := ownB_ok (p4 n hn)
    show ExcOk K (He.ga K (X.nrm n))
    rw [nrm_same hn]
    exact ⟨o.ga, o.gg, o.exC, o.hdC, o.noN, c1, p6, p7, c2⟩
  · have := b.pair n m
    unfold pairB at this
    simp only [Bool.and_eq_true, decide_eq_true_eq] at this
    have h := this.1
    rw [← e]
    exact h
  · obtain ⟨o, _, _, _, c4⟩ := ownB_ok (p4 n hn)
    show PySem.W.kitOne K (.ref (He.ga K (X.nrm n))) _ = _
    rw [nrm_same hn]
    exact c4
theorem Bas.exm (b : Bas X K K2 P mg base) (x n : Str) (h : (X.gs K L).sub n x = true) : PySem.W.exmOne K (.ref ((X.gs K L).cl n)) (.ref ((X.gs K L).cl x)) = some true := by
  have := b.pair n x
  unfold pairB at this
  simp only [Bool.and_eq_true, decide_eq_true_eq, Bool.or_eq_true, Bool.not_eq_true'] at this
  have h : X.subs.contains (X.nrm n, X.nrm x) = true := h
  rw [h] at this
  rcases this.2 with z | z
  · cases z
  · exact z
/-- the defs and lambdas that are known by now -/
structure Stg (X : HdD) (K : PySem.W.Frag) (L : List LamD) (P : Program) (w : World) (mg : Str → Option Value) (base : Heap) (k : Nat) (cs : List FC) (lc : Nat → Option (Nat × FC)) : Prop where
  fn : ∀ j d, X.fns[j]? = some d → FnD (X.gs K L) P w K mg base k (He.ga K d.name) (fdAt K d.name) (psOf d) (cs.getD j CF)
  lam : ∀ j n D, lc j = some (n, D) → LamRun (X.gs K L) P w K mg base k j n D
variable {k : Nat} {cs : List FC} {lc : Nat → Option (Nat × FC)}
theorem Stg.nil : Stg X K L P w mg base k [] (fun _ => none) := ⟨fun j d _ => ⟨fun _ _ _ _ h => h.elim, fun _ _ _ _ _ _ _ _ _ _ _ _ _ _ _ _ _ h => h.elim⟩, fun _ _ _ h => by cases h⟩
theorem lamRun_mono {G : GS} {j n k' : Nat} {D : FC} (F : LamRun G P w K mg base k j n D) (h : k ≤ k') : LamRun G P w K mg base k' j n D :=
  ⟨F.len, fun A outer s H f sn us vs ds S Q E hr => F.run A outer s H f sn us vs ds S Q E (hr.mono h)⟩
theorem Stg.air (b : Bas X K K2 P mg base) (hT : tabTB X T = true) (s : Stg X K L P w mg base k cs lc) : Air (X.gs K L) (gaOf X cs lc) T P w K mg base k := by
  obtain ⟨p1, p2, p3, p4, p5, p6, p7, p8, p9⟩ := b.parts
  have fen := fen_said b.KX b.ns b.said.ini p9 b.ini b.file b.sup
  refine ⟨fun x g e => ?_, s.lam, b.nod, b.excs, fun x n => b.exm x n⟩
  have h := List.all_eq_true.mp hT _ (lookupS_mem e)
  unfold giB at h
  simp only [Bool.and_eq_true, Bool.not_eq_true'] at h
  refine ⟨h.1, ?_⟩
  have h := h.2
  cases g with
  | fn j ps =>
    simp only at h
    split at h
    · rename_i d q
      simp only [Bool.and_eq_true, decide_eq_true_eq] at h
      obtain ⟨rfl, hp⟩ := h
      have hd : d ∈ X.fns := List.mem_of_getElem? q
      obtain ⟨oc, od, osl, kV, doc, pm, an, cdv, ct, lk, hcd, hfd, hns, hk⟩ := fn_said (by
        have := b.said.fn
        have e2 : (X.fns.map fun d => He.fnW K (d.name, none))[j]? = (X.fns.map DefT.val)[j]? := by rw [this]
        rw [List.getElem?_map, List.getElem?_map, q] at e2
        exact Option.some.inj e2) (p1 d hd)
      have hps : psOf d = ps := by
        have := hp.1.2
        exact eq_of_beq this
      refine ⟨He.ga K d.name, fdAt K d.name, ?_, PySem.W.mg_of b.KX b.ns hns, hk, ?_⟩
      · have := s.fn j d q
        rw [hps] at this
        exact this
      · rw [hfd]
        refine bindD_fn ?_
        simp only [Bool.and_eq_true]
        exact hp
    · cases h
  | val j =>
    simp only at h
    split at h
    · rename_i q hq
      have hx : q.1 = x := of_decide_eq_true h
      subst hx
      have hv := p2 q (List.mem_of_getElem? hq)
      unfold valB at hv
      split at hv
      · rename_i u hu
        obtain ⟨v, r, hd⟩ := datB_ok (G := X.gs K L) q.2 u hv
        refine ⟨v, u, PySem.W.mg_of b.KX b.ns hu, r, fun H => ?_⟩
        have : (gaOf X cs lc).gv j = q.2 := by
          show ((X.vals[j]?).map (·.2)).getD .non = q.2
          rw [hq]; rfl
        rw [this]
        exact hd H
      · cases hv
    · cases h
  | cls =>
    have hx : x ∈ X.exs := List.contains_iff_mem.mp h
    obtain ⟨o, c1, c2, c3, _⟩ := ownB_ok (p4 x hx)
    show mg x = some (.ref (He.ga K (X.nrm x)))
    rw [nrm_same hx]
    exact PySem.W.mg_of b.KX b.ns c3
  | exc =>
    have hx : x ∈ X.exs := List.contains_iff_mem.mp h
    obtain ⟨o, c1, c2, c3, _⟩ := ownB_ok (p4 x hx)
    refine ⟨?_, He.ga K X.root, iniA K X.root, iniC K X.root, fen.1, ?_⟩
    · show mg x = some (.ref (He.ga K (X.nrm x)))
      rw [nrm_same hx]
      exact PySem.W.mg_of b.KX b.ns c3
    · show DX.OwnTxt K _ _ (He.ga K (X.nrm x))
      rw [nrm_same hx]
      exact o
  | blt id =>
    simp only [Bool.and_eq_true, decide_eq_true_eq] at h
    obtain ⟨⟨h1, h2⟩, h3⟩ := h
    refine ⟨PySem.W.mg_none_of b.KX b.ns (p3 x (List.contains_iff_mem.mp h1)), ?_, h3⟩
    unfold isBoot at h2
    split at h2
    · rename_i v q
      simp only [] at h2
      split at h2
      · rw [q, of_decide_eq_true h2]
      · cases h2
    · cases h2
  | bty id =>
    simp only [Bool.and_eq_true, decide_eq_true_eq] at h
    obtain ⟨⟨h1, h2⟩, h3⟩ := h
    refine ⟨PySem.W.mg_none_of b.KX b.ns (p3 x (List.contains_iff_mem.mp h1)), ?_, h3⟩
    unfold isBoot at h2
    split at h2
    · rename_i v q
      simp only [] at h2
      split at h2
      · rw [q, of_decide_eq_true h2]
      · cases h2
    · cases h2
end
end DL

namespace DL
open PySem PySem.Spec PyProof.Rows L2
section
variable {X : HdD} {K K2 : PySem.W.Frag} {P : Program} {mg : Str → Option Value} {base : Heap} {L : List LamD} {w : World} {T : List (Str × GI)} {k : Nat} {cs : List FC} {lc : Nat → Option (Nat × FC)}
theorem Bas.fnAt (b : Bas X K K2 P mg base) {j : Nat} {d : DefT} (q : X.fns[j]? = some d) : ∃ oc od osl kV doc pm an cdv ct, K.lookup (He.ga K d.name) = some ⟨oc, od, .func (PySem.W.fnOf d.name d.name d.args d.body d.sc .none kV doc pm an cdv ct), osl⟩ ∧ PySem.W.codeIn K cdv d.name = true ∧
    fdAt K d.name = PySem.W.fnOf d.name d.name d.args d.body d.sc .none kV doc pm an cdv ct ∧ PySem.W.nsIn K mainGlobals d.name = some (some (.ref (He.ga K d.name))) ∧ PySem.W.keepIn K (.ref (He.ga K d.name)) = true := by
  refine fn_said ?_ (b.parts.1 d (List.mem_of_getElem? q))
  have e2 : (X.fns.map fun d => He.fnW K (d.name, none))[j]? = (X.fns.map DefT.val)[j]? := by rw [b.said.fn]
  rw [List.getElem?_map, List.getElem?_map, q] at e2
  exact Option.some.inj e2
theorem nodup_inj {α β : Type} {f : α → β} : ∀ {l : List α}, (l.map f).Nodup → ∀ x ∈ l, ∀ y ∈ l, f x = f y → x = y
  | [], _, x, h, _, _, _ => by cases h
  | a :: l, h, x, hx, y, hy, e => by
    rw [List.map_cons, List.nodup_cons] at h
    rcases List.mem_cons.mp hx with rfl | hx
    · rcases List.mem_cons.mp hy with rfl | hy
      · rfl
      · exact absurd (List.mem_map.mpr ⟨y, hy, e.symm⟩) h.1
    · rcases List.mem_cons.mp hy with e2 | hy
      · rw [e2] at e
        exact absurd (List.mem_map.mpr ⟨x, hx, e⟩) h.1
      · exact nodup_inj h.2 x hx y hy e
/-- one def's check -/
structure FnOK (X : HdD) (L : List LamD) (T : List (Str × GI)) (j : Nat) (F : FnCk) : Prop where
  ck : ckFn X.fns j F = true
  T : F.C.T = T
  L : F.C.L = L
  tab : F.C.hl = true → ∀ d, X.fns[j]? = some d → d.name ∈ X.tabs
theorem Stg.step (b : Bas X K K2 P mg base) (hT : tabTB X T = true) (s : Stg X K L P w mg base k cs lc) {j : Nat} {F : FnCk} {C : FC} (ok : FnOK X L T j F) (len : ∀ ds S Q E, C ds S Q E → ds.length = F.ps.length) (hw : Keeps (X.gs K L) (gaOf X cs lc) F C) :
    ∀ d, X.fns[j]? = some d → FnD (X.gs K L) P w K mg base (k + 1) (He.ga K d.name) (fdAt K d.name) (psOf d) C := by
  intro d q
  have ck := ok.ck
  unfold ckFn at ck
  rw [q] at ck
  simp only [Bool.and_eq_true] at ck
  obtain ⟨c1, c2⟩ := ck
  have hps : psOf d = F.ps := eq_of_beq c2.1.2
  obtain ⟨oc, od, osl, kV, doc, pm, an, cdv, ct, lk, hcd, hfd, hns, hk⟩ := b.fnAt q
  rw [hfd, hps]
  have air := s.air b hT
  rw [← ok.T] at air
  refine fnD_core F lk hcd ok.L.symm c1 air (fun hl => ?_) len hw
  have ht := ok.tab hl d q
  obtain ⟨t1, t2⟩ := b.tb d.name ht
  rw [hfd] at t2
  have t2 : cdv = .ref (codeAt K d.name) := t2
  refine ⟨_, _, t1, t2, List.mem_map.mpr ⟨d.name, ht, rfl⟩, fun p hp e => ?_⟩
  obtain ⟨y, hy, rfl⟩ := List.mem_map.mp hp
  have : y = d.name := nodup_inj b.parts.2.2.2.2.2.2.2.1 y hy d.name ht e
  rw [this]; rfl
theorem getD_app_lt {cs : List FC} {C : FC} {j : Nat} (h : j ≠ cs.length) : (cs ++ [C]).getD j CF = cs.getD j CF := by
  rw [List.getD_eq_getElem?_getD, List.getD_eq_getElem?_getD]
  by_cases l : j < cs.length
  · rw [List.getElem?_append_left l]
  · rw [List.getElem?_eq_none (by simp; omega), List.getElem?_eq_none (by omega)]
theorem getD_app_eq {cs : List FC} {C : FC} : (cs ++ [C]).getD cs.length CF = C := by
  rw [List.getD_eq_getElem?_getD, List.getElem?_append_right (Nat.le_refl _)]; simp
theorem Stg.put (s : Stg X K L P w mg base k cs lc) {C : FC} (h : ∀ d, X.fns[cs.length]? = some d → FnD (X.gs K L) P w K mg base (k + 1) (He.ga K d.name) (fdAt K d.name) (psOf d) C) : Stg X K L P w mg base (k + 1) (cs ++ [C]) lc := by
  refine ⟨fun j d q => ?_, fun j n D e => lamRun_mono (s.lam j n D e) (Nat.le_succ k)⟩
  by_cases e : j = cs.length
  · subst e
    rw [getD_app_eq]
    exact h d q
  · rw [getD_app_lt e]
    exact (s.fn j d q).mono (Nat.le_succ k)
/-- one def more -/
theorem Stg.add (b : Bas X K K2 P mg base) (hT : tabTB X T = true) (s : Stg X K L P w mg base k cs lc) (F : FnCk) (C : FC) (ok : FnOK X L T cs.length F) (len : ∀ ds S Q E, C ds S Q E → ds.length = F.ps.length) (hw : Keeps (X.gs K L) (gaOf X cs lc) F C) : Stg X K L P w mg base (k + 1) (cs ++ [C]) lc :=
  s.put (s.step b hT ok len hw)
/-- the last def again, of itself -/
theorem Stg.again (b : Bas X K K2 P mg base) (hT : tabTB X T = true) {C0 : FC} (s : Stg X K L P w mg base k (cs ++ [C0]) lc) (F : FnCk) (C : FC) (ok : FnOK X L T cs.length F) (len : ∀ ds S Q E, C ds S Q E → ds.length = F.ps.length) (hw : Keeps (X.gs K L) (gaOf X (cs ++ [C0]) lc) F C) :
    Stg X K L P w mg base (k + 1) (cs ++ [C]) lc := by
  have h := s.step b hT ok len hw
  refine ⟨fun j d q => ?_, fun j n D e => lamRun_mono (s.lam j n D e) (Nat.le_succ k)⟩
  by_cases e : j = cs.length
  · subst e
    rw [getD_app_eq]
    exact h d q
  · rw [getD_app_lt e]
    have := (s.fn j d q).mono (Nat.le_succ k)
    rw [getD_app_lt e] at this
    exact this
theorem getD_set {cs : List FC} {C : FC} {i j : Nat} (h : j < cs.length) : (cs.set j C).getD i CF = if i = j then C else cs.getD i CF := by
  rw [List.getD_eq_getElem?_getD, List.getD_eq_getElem?_getD, List.getElem?_set]
  by_cases e : j = i
  · subst e
    rw [if_pos rfl, if_pos h, if_pos rfl]; rfl
  · rw [if_neg e, if_neg (Ne.symm e)]
/-- nothing is known yet, of n defs -/
theorem Stg.pad (n : Nat) : Stg X K L P w mg base 0 (List.replicate n CF) (fun _ => none) := ⟨fun j d _ => by
  have e : (List.replicate n CF).getD j CF = CF := by
    rw [List.getD_eq_getElem?_getD, List.getElem?_replicate]
    split <;> rfl
  rw [e]
  exact ⟨fun _ _ _ _ h => h.elim, fun _ _ _ _ _ _ _ _ _ _ _ _ _ _ _ _ _ h => h.elim⟩, fun _ _ _ h => by cases h⟩
/-- one def, wherever it stands -/
theorem Stg.set (b : Bas X K K2 P mg base) (hT : tabTB X T = true) (s : Stg X K L P w mg base k cs lc) (j : Nat) (F : FnCk) (C : FC) (hj : j < cs.length) (ok : FnOK X L T j F) (len : ∀ ds S Q E, C ds S Q E → ds.length = F.ps.length) (hw : Keeps (X.gs K L) (gaOf X cs lc) F C) :
    Stg X K L P w mg base (k + 1) (cs.set j C) lc := by
  have h := s.step b hT ok len hw
  refine ⟨fun i d q => ?_, fun i n D e => lamRun_mono (s.lam i n D e) (Nat.le_succ k)⟩
  rw [getD_set hj]
  by_cases e : i = j
  · subst e
    rw [if_pos rfl]
    exact h d q
  · rw [if_neg e]
    exact (s.fn i d q).mono (Nat.le_succ k)
/-- one lambda's check -/
structure LmOK (L : List LamD) (T : List (Str × GI)) (j n : Nat) (F : LmCk) : Prop where
  ck : ckLm L j F = true
  n : ∀ ld, L[j]? = some ld → n = ld.ps.length + ld.caps.length
  T : F.C.T = T
  L : F.C.L = L
/-- the lambdas, all of them -/
theorem Stg.lams (b : Bas X K K2 P mg base) (hT : tabTB X T = true) (s : Stg X K L P w mg base k cs (fun _ => none)) (ls : List (LmCk × Nat × FC)) (h : ∀ j F n C, ls[j]? = some (F, n, C) → LmOK L T j n F ∧ (∀ ds S Q E, C ds S Q E → ds.length = n) ∧ LKeeps (X.gs K L) (gaOf X cs (fun _ => none)) F C) :
    Stg X K L P w mg base (k + 1) cs (fun j => (ls[j]?).map (·.2)) := by
  refine ⟨fun j d q => (s.fn j d q).mono (Nat.le_succ k), fun j n C e => ?_⟩
  cases q : ls[j]? with
  | none => rw [q] at e; cases e
  | some p =>
    obtain ⟨F, n', C'⟩ := p
    rw [q] at e
    cases e
    obtain ⟨ok, len, hw⟩ := h j F n C q
    have air := s.air b hT
    rw [← ok.T] at air
    have ck := ok.ck
    unfold ckLm at ck
    cases z : L[j]? with
    | none => rw [z] at ck; cases ck
    | some ld =>
      rw [z] at ck
      exact lam_core F z (ok.n ld z) ok.L.symm ck air len hw
end
/-! ### the end -/
theorem ns_none {K : PySem.W.Frag} {h : Heap} {a : Addr} {m : Str → Option Value} {n : Str} (X : K.In h) (G : h.Ns a m) (e : PySem.W.nsIn K a n = some none) : m n = none := by
  obtain ⟨o, es, ep, ho, hd, _, hf⟩ := G
  unfold PySem.W.nsIn at e
  split at e
  · rename_i c d es' n' sl q
    have e1 := X _ _ q
    rw [ho] at e1
    cases e1
    cases hd
    split at e
    · cases e
    · rename_i he
      rw [← hf]
      unfold nsFind findBy
      rw [← Array.find?_toList, he]; rfl
  · cases e
/-- what is known at the head's heap -/
theorem law_end {X : HdD} {l : PySem.W.OpenLaw} {n k : Nat} {q : Program} {loose : List Str} {XP : (Str → Option Value) → Heap → Prop} {d : DefRec} {j : Nat} {C : FC} {L : List LamD} {dt : DefT}
    (hn : l.most = some n) (hn2 : n ≤ sizeLine) (hdf : d.params.defaults = []) (hr : RoomD k callerA) (hq : X.fns[j]? = some dt) (hnm : dt.name = d.name) (hps : psOf dt = [("script" : Str)]) (hpl : plainA dt.args = true) (hini : iniT X.ini = true) (hfile : ((l.prog.main.file : Str) == X.file) = true)
    (hsup : (l.prog.main.scope.names.lookup ("super" : Str)).isSome = false) (hexs : X.exs.isEmpty = false)
    (hsp : ∀ (a : Addr) (ns : List Int) (S : DS), ns.length ≤ n → (∀ z ∈ ns, Builtin.Int.intBits z ≤ 1048576) → lstAt S a = some (ns.map .int) → C [.ref a] S (fun d _ => d = .bl true) fun _ _ _ => False)
    (F : ∀ (w : World) (mg : Str → Option Value) (K K2 : PySem.W.Frag) (base : Heap), Bas X K K2 l.prog mg base → FnD (X.gs K L) l.prog w K mg base k (He.ga K dt.name) (fdAt K dt.name) (psOf dt) C) :
    PySem.W.WalkO q loose XP X.hook.says l.row.toRowW d [] (fun f vs => PySem.call f vs) := by
  refine Att.attach_callB hn hdf fun w s₀ s₁ mg mb fa o pm cd doc a vs ns G Y ho hd hcd hmg hobj hints hlen hbits hg => ?_
  obtain ⟨K, K2, KX, KY, said⟩ := Y
  have tabOk : ∀ x ∈ X.tabs, (fdAt K x).code = .ref (codeAt K x) ∧ PySem.W.CodeHd s₁.heap (codeAt K x) (tabAt K x) ∧ s₁.heap.get? (tabAt K x) = some tab0 ∧ K.lookup (tabAt K x) = none := fun x hx => by
    have h := said.ok
    unfold HdD.okB at h
    simp only [Bool.and_eq_true, decide_eq_true_eq, List.all_eq_true] at h
    obtain ⟨⟨⟨⟨⟨⟨⟨⟨⟨h1, h2⟩, h3⟩, h4⟩, h5⟩, h6⟩, h7⟩, h8⟩, h9⟩, h10⟩ := h
    exact tabB_ok KX KY said.pure said.tbls (h4 x hx)
  have hini2 : PySem.W.nsIn K cStatics "sys.int_max_str_digits" = some none := by
    have h := said.ok
    unfold HdD.okB at h
    simp only [Bool.and_eq_true, decide_eq_true_eq, List.all_eq_true] at h
    obtain ⟨⟨⟨⟨⟨⟨⟨⟨⟨h1, h2⟩, h3⟩, h4⟩, h5⟩, h6⟩, h7⟩, h8⟩, h9⟩, h10⟩ := h
    unfold iniB at h5
    simp only [Bool.and_eq_true] at h5
    exact He.eqO_ok h5.2
  have dig : s₁.heap.NoDigits := by
    obtain ⟨mc, h1, _⟩ := G.T.nolimit
    exact ⟨mc, h1, ns_none KX h1 hini2⟩
  have basF : ∀ base : Heap, K.In base → base.Ns mainGlobals mg → base.NoDigits → (∀ p ∈ X.tabs.map (fun x => (codeAt K x, tabAt K x)), LamX.TabB base mg p.1 p.2) → Bas X K K2 l.prog mg base := fun base h1 h2 h3 h4 => ⟨said, h1, h2, h3, fun x hx => ⟨h4 _ (List.mem_map.mpr ⟨x, hx, rfl⟩), (tabOk x hx).1⟩, hini, hfile, hsup, hexs⟩
  have nA : K.lookup a = none := by
    cases e : K.lookup a with
    | none => rfl
    | some o =>
      have h1 := KX _ _ e
      rw [hobj] at h1
      have h2 := (said.pure _ _ e).1
      rw [← Option.some.inj h1] at h2
      exact absurd h2 (by simp [isLO])
  have hfn : He.fnW K (dt.name, none) = dt.val := by
    have e2 : (X.fns.map fun d => He.fnW K (d.name, none))[j]? = (X.fns.map DefT.val)[j]? := by rw [said.fn]
    rw [List.getElem?_map, List.getElem?_map, hq] at e2
    exact Option.some.inj e2
  have hfb : fnB K dt = true := by
    have h := said.ok
    unfold HdD.okB at h
    simp only [Bool.and_eq_true, decide_eq_true_eq, List.all_eq_true] at h
    obtain ⟨⟨⟨⟨⟨⟨⟨⟨⟨h1, h2⟩, h3⟩, h4⟩, h5⟩, h6⟩, h7⟩, h8⟩, h9⟩, h10⟩ := h
    exact h1 dt (List.mem_of_getElem? hq)
  obtain ⟨oc, od, osl, kV, doc', pm', an, cdv, ct, lk, hcd', hfd, hns, hk⟩ := fn_said hfn hfb
  have efa : fa = He.ga K dt.name := by
    have e1 := PySem.W.mg_of KX G.T.g hns
    rw [hnm, hmg] at e1
    rw [hnm]
    cases e1; rfl
  have bnd : BindD (fdAt K dt.name) (psOf dt) := by
    rw [hfd]
    refine bindD_fn ?_
    rw [hpl, hps]
    simp only [Bool.true_and, Bool.and_eq_true, beq_iff_eq]
    exact ⟨hps, rfl⟩
  subst efa
  refine law_callD (G := X.gs K L) (mb := mb) (cs := X.tabs.map fun x => (codeAt K x, tabAt K x)) (fd := fdAt K dt.name) (x := ("script" : Str)) (C := C) KX G.T.g G.T.b G.T.builtins G.T.nolimit dig hg (fun p hp => ?_) (fun p hp => ?_) (fun p hp => ?_) G.T.bmain hobj nA hints (Nat.le_trans hlen hn2) hr (fun p hp => ?_) (fun base h1 h2 h3 h4 => ?_) (fun s u => ?_) (fun S e => hsp a ns S hlen hbits e)
  · obtain ⟨x, hx, rfl⟩ := List.mem_map.mp hp
    exact (tabOk x hx).2.2.1
  · obtain ⟨x, hx, rfl⟩ := List.mem_map.mp hp
    exact (tabOk x hx).2.2.2
  · obtain ⟨x, hx, rfl⟩ := List.mem_map.mp hp
    exact (tabOk x hx).2.1
  · obtain ⟨x, hx, rfl⟩ := List.mem_map.mp hp
    exact List.mem_map.mpr ⟨_, List.mem_map.mpr ⟨x, hx, rfl⟩, rfl⟩
  · have := F w mg K K2 base (basF base h1 h2 h3 h4)
    rw [hps] at this
    exact this
  · have := bnd [u] [] (by rw [hps]; rfl)
    rw [hps] at this
    exact BindsTo.of_eq this
end DL

namespace LK
open PySem DL
def fIsInt : FnCk := ⟨⟨[], ["value", "low", "high"], [], false⟩, ["value", "low", "high"],
  (.cons (.ret (.bo .And (.more (.callB "isinstance" (.cons (.var 0) (.cons (.ty "int") .nil))) (.more (.nt (.callB "isinstance" (.cons (.var 0) (.cons (.ty "bool") .nil)))) (.one (.chain (.var 1) (.link .LtE (.var 0) (.last .LtE (.var 2)))))))))
  .nil)⟩
def fIsWhole : FnCk := ⟨⟨[], ["value"], [], false⟩, ["value"],
  (.cons (.ret (.bo .And (.more (.callB "isinstance" (.cons (.var 0) (.cons (.ty "int") .nil))) (.one (.nt (.callB "isinstance" (.cons (.var 0) (.cons (.ty "bool") .nil))))))))
  .nil)⟩
def fLookInt (i0 : Nat) : FnCk := ⟨⟨[], ["value", "low", "high"], [], false⟩, ["value", "low", "high"],
  (.cons (.ite (.nt (.v (.call i0 (.cons (.var 0) (.cons (.var 1) (.cons (.var 2) .nil))) .nil)))
  (.cons (.raise "BadInt" (.var 0))
  .nil)
  .nil)
  .nil)⟩
def fAreWholes (i1 : Nat) : FnCk := ⟨⟨[], ["value", "one"], [], false⟩, ["value"],
  (.cons (.ret (.bo .And (.more (.callB "isinstance" (.cons (.var 0) (.cons (.ty "tuple") .nil))) (.one (.callB "all" (.cons (.lc (.name 1 false) (.val (.var 0)) .none (.call i1 (.cons (.var 1) .nil) .nil) [("one", 1)]) .nil))))))
  .nil)⟩
def fProd : FnCk := ⟨⟨[], ["one", "other", "a", "b", "c", "d", "e", "f", "g", "h"], [], false⟩, ["one", "other"],
  (.cons (.asg (.tup (.cons (.tup (.cons (.name 2 false) (.cons (.name 3 false) .nil))) (.cons (.tup (.cons (.name 4 false) (.cons (.name 5 false) .nil))) .nil))) (.var 0))
  (.cons (.asg (.tup (.cons (.tup (.cons (.name 6 false) (.cons (.name 7 false) .nil))) (.cons (.tup (.cons (.name 8 false) (.cons (.name 9 false) .nil))) .nil))) (.var 1))
  (.cons (.ret (.tup (.cons (.tup (.cons (.bin .Add (.bin .Mult (.var 2) (.var 6)) (.bin .Mult (.var 3) (.var 8))) (.cons (.bin .Add (.bin .Mult (.var 2) (.var 7)) (.bin .Mult (.var 3) (.var 9))) .nil))) (.cons (.tup (.cons (.bin .Add (.bin .Mult (.var 4) (.var 6)) (.bin .Mult (.var 5) (.var 8))) (.cons (.bin .Add (.bin .Mult (.var 4) (.var 7)) (.bin .Mult (.var 5) (.var 9))) .nil))) .nil))))
  .nil)))⟩
def fTurn : FnCk := ⟨⟨[], ["number"], [], false⟩, ["number"],
  (.cons (.ret (.tup (.cons (.tup (.cons (.var 0) (.cons (.neg (.int 1)) .nil))) (.cons (.tup (.cons (.int 1) (.cons (.int 0) .nil))) .nil))))
  .nil)⟩
def fTurns (i4 i5 v0 : Nat) : FnCk := ⟨⟨[], ["row", "found", "number"], [], false⟩, ["row"],
  (.cons (.asg (.name 1 false) (.glob v0))
  (.cons (.for_ (.name 2 false) (.val (.var 0))
  (.cons (.asg (.name 1 false) (.call i4 (.cons (.var 1) (.cons (.call i5 (.cons (.var 2) .nil) .nil) .nil)) .nil))
  .nil))
  (.cons (.ret (.var 1))
  .nil)))⟩
def fIsRow (i3 v1 v2 : Nat) : FnCk := ⟨⟨[], ["value", "one"], [], false⟩, ["value"],
  (.cons (.ite (.bo .Or (.more (.nt (.v (.call i3 (.cons (.var 0) .nil) .nil))) (.one (.cmp .Gt (.callB "len" (.cons (.var 0) .nil)) (.glob v2)))))
  (.cons (.ret (.bl false))
  .nil)
  .nil)
  (.cons (.ret (.callB "all" (.cons (.lc (.name 1 false) (.val (.var 0)) .none (.cmp .LtE (.callB "abs" (.cons (.var 1) .nil)) (.glob v1)) [("one", 1)]) .nil)))
  .nil))⟩
def fLookRow (i7 : Nat) : FnCk := ⟨⟨[], ["row"], [], false⟩, ["row"],
  (.cons (.ite (.nt (.v (.call i7 (.cons (.var 0) .nil) .nil)))
  (.cons (.raise "BadRow" (.var 0))
  .nil)
  .nil)
  .nil)⟩
def fTurnsOf (i6 i8 : Nat) : FnCk := ⟨⟨[], ["row"], [], false⟩, ["row"],
  (.cons (.expr (.call i8 (.cons (.var 0) .nil) .nil))
  (.cons (.ret (.call i6 (.cons (.var 0) .nil) .nil))
  .nil))⟩
def fDet : FnCk := ⟨⟨[], ["row", "ahead", "here", "number"], [], false⟩, ["row"],
  (.cons (.asg (.tup (.cons (.name 1 false) (.cons (.name 2 false) .nil))) (.tup (.cons (.int 0) (.cons (.int 1) .nil))))
  (.cons (.for_ (.name 3 false) (.val (.var 0))
  (.cons (.par2 1 2 false false (.var 2) (.bin .Sub (.bin .Mult (.var 3) (.var 2)) (.var 1)))
  .nil))
  (.cons (.ret (.var 2))
  .nil)))⟩
def fCont (i8 i10 : Nat) : FnCk := ⟨⟨[], ["row"], [], false⟩, ["row"],
  (.cons (.expr (.call i8 (.cons (.var 0) .nil) .nil))
  (.cons (.ret (.call i10 (.cons (.var 0) .nil) .nil))
  .nil))⟩
def fAgain (i2 i4 i6 i8 v0 v2 : Nat) : FnCk := ⟨⟨[], ["row", "many", "found", "step", "lap"], [], false⟩, ["row", "many"],
  (.cons (.expr (.call i8 (.cons (.var 0) .nil) .nil))
  (.cons (.expr (.call i2 (.cons (.var 1) (.cons (.int 0) (.cons (.glob v2) .nil))) .nil))
  (.cons (.par2 2 3 false false (.glob v0) (.call i6 (.cons (.var 0) .nil) .nil))
  (.cons (.for_ (.name 4 false) (.rng (.cons (.var 1) .nil))
  (.cons (.asg (.name 2 false) (.call i4 (.cons (.var 2) (.cons (.var 3) .nil)) .nil))
  .nil))
  (.cons (.ret (.var 2))
  .nil)))))⟩
def fPot : FnCk := ⟨⟨[], ["script", "place", "cell", "own", "small"], [], false⟩, ["script", "place"],
  (.cons (.asg (.name 2 false) (.ife (.cmp .Lt (.var 1) (.callB "len" (.cons (.var 0) .nil))) (.ix (.var 0) (.var 1)) (.bin .Add (.bin .Add (.bin .Mod (.callT "int" (.cons (.callB "sum" (.cons (.sl (.var 0) .none (.some (.int 1))) .nil)) .nil)) (.int 1000211)) (.bin .Mult (.int 4639) (.var 1))) (.int 3163))))
  (.cons (.asg (.name 3 false) (.bin .Mult (.bin .Mod (.callT "int" (.cons (.callB "abs" (.cons (.var 2) .nil)) .nil)) (.bin .Pow (.bin .Pow (.int 10) (.int 60)) (.int 5))) (.callT "int" (.cons (.cmp .GtE (.callB "abs" (.cons (.var 2) .nil)) (.bin .Pow (.int 10) (.int 18))) .nil))))
  (.cons (.asg (.name 4 false) (.bin .Mod (.callT "int" (.cons (.var 2) .nil)) (.int 2305843009213693951)))
  (.cons (.ret (.lst (.cons (.var 3) (.cons (.bin .Mod (.callT "int" (.cons (.bin .Add (.bin .Add (.bin .Mult (.var 4) (.int 72161)) (.bin .Mult (.bin .Mult (.int 10853) (.var 1)) (.var 1))) (.int 2843)) .nil)) (.int 2305843009213693921)) (.cons (.int 0) .nil)))))
  .nil))))⟩
def fTake : FnCk := ⟨⟨[], ["pot", "upto", "digit", "prime", "blend"], [], false⟩, ["pot", "upto"],
  (.cons (.ite (.cmp .Gt (.ix (.var 0) (.int 0)) (.int 0))
  (.cons (.asg (.name 2 false) (.bin .Mod (.callT "int" (.cons (.ix (.var 0) (.int 0)) .nil)) (.var 1)))
  (.cons (.asg (.sub (.var 0) (.int 0)) (.bin .FloorDiv (.ix (.var 0) (.int 0)) (.var 1)))
  (.cons (.ret (.var 2))
  .nil)))
  .nil)
  (.cons (.asg (.sub (.var 0) (.int 2)) (.bin .Add (.ix (.var 0) (.int 2)) (.int 1)))
  (.cons (.asg (.name 3 false) (.ix (.lst (.cons (.int 2147483647) (.cons (.int 2147483629) (.cons (.int 2147483587) (.cons (.int 2147483579) (.cons (.int 2147483563) .nil)))))) (.bin .Mod (.callT "int" (.cons (.ix (.var 0) (.int 2)) .nil)) (.int 5))))
  (.cons (.asg (.name 4 false) (.bin .Mod (.callT "int" (.cons (.bin .Pow (.callT "int" (.cons (.bin .Add (.bin .Add (.ix (.var 0) (.int 1)) (.bin .Mult (.bin .Mult (.int 95257) (.ix (.var 0) (.int 2))) (.ix (.var 0) (.int 2)))) (.int 3163)) .nil)) (.int 3)) .nil)) (.var 3)))
  (.cons (.asg (.name 4 false) (.bin .Mod (.callT "int" (.cons (.bin .Mult (.var 4) (.bin .Add (.bin .Mod (.callT "int" (.cons (.var 4) .nil)) (.int 13441)) (.bin .Mult (.int 419) (.ix (.var 0) (.int 2))))) .nil)) (.int 2305843009213693907)))
  (.cons (.ret (.bin .Mod (.callT "int" (.cons (.bin .FloorDiv (.var 4) (.int 229)) .nil)) (.var 1)))
  .nil))))))⟩
def fOf (i14 : Nat) : FnCk := ⟨⟨[], ["pot", "some"], [], false⟩, ["pot", "some"],
  (.cons (.ret (.ix (.var 1) (.call i14 (.cons (.var 0) (.cons (.callB "len" (.cons (.var 1) .nil)) .nil)) .nil)))
  .nil)⟩
def fCells : FnCk := ⟨⟨[], ["script", "most"], [], false⟩, ["script", "most"],
  (.cons (.ret (.rng false (.cons (.callB "max" (.cons (.int 1) (.cons (.callB "min" (.cons (.var 1) (.cons (.callB "len" (.cons (.var 0) .nil)) .nil))) .nil))) .nil)))
  .nil)⟩
def fHeard : FnCk := ⟨⟨[], ["call", "caught", "gave", "error"], [], false⟩, ["call"],
  (.cons (.asg (.tup (.cons (.name 1 false) (.cons (.name 2 false) .nil))) (.tup (.cons .non (.cons .non .nil))))
  (.cons (.heard 1 2 3 0 "FenceError")
  (.cons (.ret (.tup (.cons (.var 1) (.cons (.var 2) .nil))))
  .nil)))⟩
def fOdd (i15 : Nat) : FnCk := ⟨⟨[], ["pot", "some"], [], false⟩, ["pot"],
  (.cons (.asg (.name 1 false) (.lst (.cons .non (.cons (.bl true) (.cons (.bl false) (.cons (.int 0) (.cons (.int 1) (.cons (.neg (.int 1)) (.cons (.int 33) (.cons (.bin .Pow (.int 10) (.int 20)) (.cons (.str "") (.cons (.str "a") (.cons (.str "cut") (.cons (.str "turns") (.cons (.tup .nil) (.cons (.lst .nil) (.cons (.dict .nil) (.cons (.tup (.cons (.int 0) .nil)) (.cons (.tup (.cons (.tup .nil) .nil)) (.cons (.lst (.cons (.int 1) .nil)) (.cons (.tup (.cons (.int 1) (.cons (.int 0) .nil))) .nil)))))))))))))))))))))
  (.cons (.asg (.name 1 false) (.bin .Add (.var 1) (.lst (.cons (.tup (.cons (.int 0) (.cons (.int 1) .nil))) (.cons (.tup (.cons .non .nil)) (.cons (.dict (.cons (.str "a") (.cons (.int 1) .nil))) (.cons (.tup (.cons (.tup (.cons (.int 1) .nil)) (.cons (.tup (.cons (.int 2) .nil)) .nil))) (.cons (.tup (.cons (.int 2) (.cons (.int 1) .nil))) (.cons (.tup (.cons (.int 1) (.cons (.int 1) (.cons (.int 1) .nil)))) (.cons (.tup (.cons (.tup (.cons (.bl true) .nil)) .nil)) (.cons (.tup (.cons (.str "cut") (.cons (.tup .nil) .nil))) (.cons (.tup (.cons (.int 2) (.cons (.int 1) (.cons (.int 0) .nil)))) .nil))))))))))))
  (.cons (.ret (.call i15 (.cons (.var 0) (.cons (.var 1) .nil)) .nil))
  .nil)))⟩
def fLIsInt : FnCk := ⟨⟨[], ["value", "low", "high"], [], false⟩, ["value", "low", "high"],
  (.cons (.ret (.bo .And (.more (.callB "isinstance" (.cons (.var 0) (.cons (.ty "int") .nil))) (.more (.nt (.callB "isinstance" (.cons (.var 0) (.cons (.ty "bool") .nil)))) (.one (.chain (.var 1) (.link .LtE (.var 0) (.last .LtE (.var 2)))))))))
  .nil)⟩
def fBent (i14 i15 i18 i20 : Nat) : FnCk := ⟨⟨[], ["pot", "value", "at"], [], false⟩, ["pot", "value"],
  (.cons (.ite (.bo .And (.more (.v (.callB "isinstance" (.cons (.var 1) (.cons (.ty "tuple") .nil)))) (.more (.cmp .NotEq (.var 1) (.tup .nil)) (.one (.cmp .Gt (.call i14 (.cons (.var 0) (.cons (.int 5) .nil)) .nil) (.int 0))))))
  (.cons (.asg (.name 2 false) (.call i14 (.cons (.var 0) (.cons (.callB "len" (.cons (.var 1) .nil)) .nil)) .nil))
  (.cons (.ret (.bin .Add (.bin .Add (.sl (.var 1) .none (.some (.var 2))) (.tup (.cons (.call i20 (.cons (.var 0) (.cons (.ix (.var 1) (.var 2)) .nil)) .nil) .nil))) (.sl (.var 1) (.some (.bin .Add (.var 2) (.int 1))) .none)))
  .nil))
  .nil)
  (.cons (.ite (.v (.callB "isinstance" (.cons (.var 1) (.cons (.ty "tuple") .nil))))
  (.cons (.ret (.call i15 (.cons (.var 0) (.cons (.lst (.cons (.callT "list" (.cons (.var 1) .nil)) (.cons (.sl (.var 1) (.some (.int 1)) .none) (.cons (.sl (.var 1) .none (.some (.neg (.int 1)))) (.cons (.bin .Add (.var 1) (.sl (.var 1) (.some (.neg (.int 1))) .none)) (.cons (.rev (.var 1)) (.cons (.tup .nil) (.cons .non .nil)))))))) .nil)) .nil))
  .nil)
  .nil)
  (.cons (.ite (.v (.callB "isinstance" (.cons (.var 1) (.cons (.ty "bool") .nil))))
  (.cons (.ret (.call i15 (.cons (.var 0) (.cons (.lst (.cons (.nt (.var 1)) (.cons (.callT "int" (.cons (.var 1) .nil)) (.cons .non .nil)))) .nil)) .nil))
  .nil)
  .nil)
  (.cons (.ite (.v (.callB "isinstance" (.cons (.var 1) (.cons (.ty "int") .nil))))
  (.cons (.ret (.call i15 (.cons (.var 0) (.cons (.lst (.cons (.bin .Add (.var 1) (.int 1)) (.cons (.bin .Sub (.var 1) (.int 1)) (.cons (.bin .Sub (.neg (.var 1)) (.int 1)) (.cons (.callT "str" (.cons (.var 1) .nil)) (.cons (.cmp .Eq (.var 1) (.int 1)) (.cons .non (.cons (.tup (.cons (.var 1) .nil)) (.cons (.bin .Pow (.int 10) (.int 9)) .nil))))))))) .nil)) .nil))
  .nil)
  .nil)
  (.cons (.ite (.v (.callB "isinstance" (.cons (.var 1) (.cons (.ty "str") .nil))))
  (.cons (.ret (.call i15 (.cons (.var 0) (.cons (.lst (.cons (.bin .Add (.var 1) (.str "a")) (.cons (.sl (.var 1) (.some (.int 1)) .none) (.cons (.met "upper" (.var 1) .nil) (.cons (.str "") (.cons .non (.cons (.int 0) .nil))))))) .nil)) .nil))
  .nil)
  .nil)
  (.cons (.ret (.call i18 (.cons (.var 0) .nil) .nil))
  .nil))))))⟩
def fTimes : FnCk := ⟨⟨[], ["one", "other", "found", "row", "at"], [], false⟩, ["one", "other"],
  (.cons (.asg (.name 2 false) (.lst .nil))
  (.cons (.for_ (.name 3 true) (.val (.var 0))
  (.cons (.expr (.met "append" (.var 2) (.cons (.callT "tuple" (.cons (.lc (.name 4 false) (.rng (.cons (.int 2) .nil)) .none (.bin .Add (.bin .Mult (.ix (.var 3) (.int 0)) (.ix (.ix (.var 1) (.int 0)) (.var 4))) (.bin .Mult (.ix (.var 3) (.int 1)) (.ix (.ix (.var 1) (.int 1)) (.var 4)))) [("at", 4)]) .nil)) .nil)))
  .nil))
  (.cons (.ret (.callT "tuple" (.cons (.var 2) .nil)))
  .nil)))⟩
def fLTurns (i21 : Nat) : FnCk := ⟨⟨[], ["row", "found", "number"], [], false⟩, ["row"],
  (.cons (.asg (.name 1 false) (.tup (.cons (.tup (.cons (.int 1) (.cons (.int 0) .nil))) (.cons (.tup (.cons (.int 0) (.cons (.int 1) .nil))) .nil))))
  (.cons (.for_ (.name 2 false) (.val (.var 0))
  (.cons (.asg (.name 1 false) (.call i21 (.cons (.var 1) (.cons (.tup (.cons (.tup (.cons (.var 2) (.cons (.neg (.int 1)) .nil))) (.cons (.tup (.cons (.int 1) (.cons (.int 0) .nil))) .nil))) .nil)) .nil))
  .nil))
  (.cons (.ret (.var 1))
  .nil)))⟩
def fLDet : FnCk := ⟨⟨[], ["row", "found", "number"], [], false⟩, ["row"],
  (.cons (.asg (.name 1 false) (.lst (.cons (.int 0) (.cons (.int 1) .nil))))
  (.cons (.for_ (.name 2 false) (.val (.var 0))
  (.cons (.expr (.met "append" (.var 1) (.cons (.bin .Sub (.bin .Mult (.var 2) (.ix (.var 1) (.neg (.int 1)))) (.ix (.var 1) (.neg (.int 2)))) .nil)))
  .nil))
  (.cons (.ret (.ix (.var 1) (.neg (.int 1))))
  .nil)))⟩
def fLIsRow (i19 : Nat) : FnCk := ⟨⟨[], ["value", "least", "one"], [], false⟩, ["value", "least"],
  (.cons (.ite (.bo .Or (.more (.nt (.v (.callB "isinstance" (.cons (.var 0) (.cons (.ty "tuple") .nil))))) (.one (.nt (.chain (.var 1) (.link .LtE (.callB "len" (.cons (.var 0) .nil)) (.last .LtE (.int 40))))))))
  (.cons (.ret (.bl false))
  .nil)
  .nil)
  (.cons (.ret (.callB "all" (.cons (.lc (.name 2 false) (.val (.var 0)) .none (.call i19 (.cons (.var 2) (.cons (.neg (.bin .Pow (.int 10) (.int 6))) (.cons (.bin .Pow (.int 10) (.int 6)) .nil))) .nil) [("one", 2)]) .nil)))
  .nil))⟩
def fRefused (i17 : Nat) : FnCk := ⟨⟨[], ["looks", "is_it", "value", "caught", "look", "miss"], [], false⟩, ["looks", "is_it", "value"],
  (.cons (.setLc 3 false (.name 4 false) (.val (.var 0)) .none (.ix (.call i17 (.cons (.var 4) .nil) .nil) (.int 0)) [("look", 4)])
  (.cons (.ret (.callB "all" (.cons (.lc (.name 5 false) (.val (.var 3)) .none (.bo .And (.more (.callV 1 (.cons (.var 5) .nil)) (.more (.callB "isinstance" (.cons (.var 5) (.cons (.ty "ValueError") .nil))) (.one (.cmp .Eq (.callB "repr" (.cons (.value (.var 5)) .nil)) (.callB "repr" (.cons (.var 2) .nil))))))) [("miss", 5)]) .nil)))
  .nil))⟩
end LK

namespace LK
open PySem DL
def isIntD (v : D) (lo hi : Int) : Bool := match v with
  | .int i => decide (lo ≤ i) && decide (i ≤ hi)
  | _ => false
def cIsInt : FC := fun ds S Q _ => ∃ v lo hi, ds = [v, .int lo, .int hi] ∧ Ty S v ∧ Q (.bl (isIntD v lo hi)) S
def cIsWhole : FC := fun ds S Q _ => ∃ v, ds = [v] ∧ Ty S v ∧ Q (.bl (isWholeD v)) S
def cLookInt : FC := fun ds S Q E => ∃ v lo hi, ds = [v, .int lo, .int hi] ∧ Ty S v ∧ (isIntD v lo hi = true → Q .non S) ∧ (isIntD v lo hi = false → E "BadInt" v S)
theorem kIsInt (G : GS) (Γ : Ga) : Keeps G Γ fIsInt cIsInt := by
  rintro ds S Q E ⟨v, lo, hi, rfl, hv, q⟩
  simp (config := {decide := true}) only [fIsInt, wpSs, DL.wpS, wpE, wpX, star_tup, star_ref, wpEs, wpEn, wpO, wpCh, wpB, wpBs, wpBo, wpI, wpT, wpTs, boolOf, startR, CTs.len, CEs.len, CEs.isNil, upto_ff, upto_tt, List.length_cons, List.length_nil, List.map_cons, List.map_nil, List.replicate, List.cons_append, List.nil_append, List.append_nil, List.set_cons_zero, List.set_cons_succ, bind_some, bind_none, getV_nil, getV_0s, getV_0n, getV_s, if_true, if_false, Bool.false_eq_true, ite_self, true_and, and_true, blt_len, blt_abs, blt_max, blt_min, blt_sum, blt_all, blt_any, blt_repr, blt_isi, lst_ref, len_tup, len_str, len_ref, bty_int, bty_bool, bty_str, bty_strs, bty_tup, bty_tupl, bty_lst, bty_lstl, bin_add, bin_sub, bin_mul, bin_div, bin_mod, bin_pow, bin_adds, bin_addt, bin_mult, bin_addl, cmp_lt, cmp_le, cmp_gt, cmp_ge, cmp_eq, cmp_ne, cmp_eqs, cmp_nes, cmp_eqt, cmp_net, cmp_is, cmp_isn, tru_non, tru_bl', tru_int, tru_str, tru_tup, tru_ref, neg_int, ix_tup', ix_str', ix_ref', sl_tup', sl_str', sl_ref', rev_tup', part_int, walk_tup, walk_ref, walk_str, rng_1, rng_2, set_ref, aug_add, aug_sub, rg_1, rg_2, atI_0, atI_1, atI_2, ixN3_0, ixN3_1, ixN3_2, ex_lst, DS.put_same, lstAt_put, hv.exc, isi_i hv, isi_b hv]
  cases v <;> simp only [isInt0, isBl, if_true, if_false, Bool.false_eq_true, Bool.not_true, Bool.not_false, cmp_le] <;> first | exact fgtQ_same q | skip
  rename_i i
  split
  · rename_i h; exact fgtQ_same (by simpa [isIntD, h] using q)
  · rename_i h; exact fgtQ_same (by simpa [isIntD, h] using q)
theorem kIsWhole (G : GS) (Γ : Ga) : Keeps G Γ fIsWhole cIsWhole := by
  rintro ds S Q E ⟨v, rfl, hv, q⟩
  simp (config := {decide := true}) only [fIsWhole, wpSs, DL.wpS, wpE, wpX, star_tup, star_ref, wpEs, wpEn, wpO, wpCh, wpB, wpBs, wpBo, wpI, wpT, wpTs, boolOf, startR, CTs.len, CEs.len, CEs.isNil, upto_ff, upto_tt, List.length_cons, List.length_nil, List.map_cons, List.map_nil, List.replicate, List.cons_append, List.nil_append, List.append_nil, List.set_cons_zero, List.set_cons_succ, bind_some, bind_none, getV_nil, getV_0s, getV_0n, getV_s, if_true, if_false, Bool.false_eq_true, ite_self, true_and, and_true, blt_len, blt_abs, blt_max, blt_min, blt_sum, blt_all, blt_any, blt_repr, blt_isi, lst_ref, len_tup, len_str, len_ref, bty_int, bty_bool, bty_str, bty_strs, bty_tup, bty_tupl, bty_lst, bty_lstl, bin_add, bin_sub, bin_mul, bin_div, bin_mod, bin_pow, bin_adds, bin_addt, bin_mult, bin_addl, cmp_lt, cmp_le, cmp_gt, cmp_ge, cmp_eq, cmp_ne, cmp_eqs, cmp_nes, cmp_eqt, cmp_net, cmp_is, cmp_isn, tru_non, tru_bl', tru_int, tru_str, tru_tup, tru_ref, neg_int, ix_tup', ix_str', ix_ref', sl_tup', sl_str', sl_ref', rev_tup', part_int, walk_tup, walk_ref, walk_str, rng_1, rng_2, set_ref, aug_add, aug_sub, rg_1, rg_2, atI_0, atI_1, atI_2, ixN3_0, ixN3_1, ixN3_2, ex_lst, DS.put_same, lstAt_put, hv.exc, isi_i hv, isi_b hv]
  cases v <;> exact fgtQ_same q
theorem kLookInt (G : GS) (Γ : Ga) {i0 : Nat} (g0 : Γ.fn i0 = cIsInt) : Keeps G Γ (fLookInt i0) cLookInt := by
  rintro ds S Q E ⟨v, lo, hi, rfl, hv, q1, q2⟩
  simp (config := {decide := true}) only [fLookInt, wpSs, DL.wpS, wpE, wpX, star_tup, star_ref, wpEs, wpEn, wpO, wpCh, wpB, wpBs, wpBo, wpI, wpT, wpTs, boolOf, startR, CTs.len, CEs.len, CEs.isNil, upto_ff, upto_tt, List.length_cons, List.length_nil, List.map_cons, List.map_nil, List.replicate, List.cons_append, List.nil_append, List.append_nil, List.set_cons_zero, List.set_cons_succ, bind_some, bind_none, getV_nil, getV_0s, getV_0n, getV_s, if_true, if_false, Bool.false_eq_true, ite_self, true_and, and_true, blt_len, blt_abs, blt_max, blt_min, blt_sum, blt_all, blt_any, blt_repr, blt_isi, lst_ref, len_tup, len_str, len_ref, bty_int, bty_bool, bty_str, bty_strs, bty_tup, bty_tupl, bty_lst, bty_lstl, bin_add, bin_sub, bin_mul, bin_div, bin_mod, bin_pow, bin_adds, bin_addt, bin_mult, bin_addl, cmp_lt, cmp_le, cmp_gt, cmp_ge, cmp_eq, cmp_ne, cmp_eqs, cmp_nes, cmp_eqt, cmp_net, cmp_is, cmp_isn, tru_non, tru_bl', tru_int, tru_str, tru_tup, tru_ref, neg_int, ix_tup', ix_str', ix_ref', sl_tup', sl_str', sl_ref', rev_tup', part_int, walk_tup, walk_ref, walk_str, rng_1, rng_2, set_ref, aug_add, aug_sub, rg_1, rg_2, atI_0, atI_1, atI_2, ixN3_0, ixN3_1, ixN3_2, ex_lst, DS.put_same, lstAt_put, g0]
  refine ⟨v, lo, hi, rfl, hv, ?_⟩
  cases h : isIntD v lo hi with
  | true => exact fgtQ_same (q1 h)
  | false => exact eE_same (q2 h)
def allWhole (v : D) : Bool := match v with
  | .tup ds => ds.all isWholeD
  | _ => false
def cAreWholes : FC := fun ds S Q _ => ∃ v, ds = [v] ∧ TyT S v ∧ Q (.bl (allWhole v)) S
theorem kAreWholes (G : GS) (Γ : Ga) {i1 : Nat} (g1 : Γ.fn i1 = cIsWhole) : Keeps G Γ (fAreWholes i1) cAreWholes := by
  rintro ds S Q E ⟨v, rfl, ⟨hv, ht⟩, q⟩
  simp (config := {decide := true}) only [fAreWholes, wpSs, DL.wpS, wpE, wpX, star_tup, star_ref, wpEs, wpEn, wpO, wpCh, wpB, wpBs, wpBo, wpI, wpT, wpTs, boolOf, startR, CTs.len, CEs.len, CEs.isNil, upto_ff, upto_tt, List.length_cons, List.length_nil, List.map_cons, List.map_nil, List.replicate, List.cons_append, List.nil_append, List.append_nil, List.set_cons_zero, List.set_cons_succ, bind_some, bind_none, getV_nil, getV_0s, getV_0n, getV_s, if_true, if_false, Bool.false_eq_true, ite_self, true_and, and_true, blt_len, blt_abs, blt_max, blt_min, blt_sum, blt_all, blt_any, blt_repr, blt_isi, lst_ref, len_tup, len_str, len_ref, bty_int, bty_bool, bty_str, bty_strs, bty_tup, bty_tupl, bty_lst, bty_lstl, bin_add, bin_sub, bin_mul, bin_div, bin_mod, bin_pow, bin_adds, bin_addt, bin_mult, bin_addl, cmp_lt, cmp_le, cmp_gt, cmp_ge, cmp_eq, cmp_ne, cmp_eqs, cmp_nes, cmp_eqt, cmp_net, cmp_is, cmp_isn, tru_non, tru_bl', tru_int, tru_str, tru_tup, tru_ref, neg_int, ix_tup', ix_str', ix_ref', sl_tup', sl_str', sl_ref', rev_tup', part_int, walk_tup, walk_ref, walk_str, rng_1, rng_2, set_ref, aug_add, aug_sub, rg_1, rg_2, atI_0, atI_1, atI_2, ixN3_0, ixN3_1, ixN3_2, ex_lst, DS.put_same, lstAt_put, hv.exc, isi_t hv, g1, lcQ, wipeR]
  cases v with
  | tup ds =>
    obtain ⟨h1, h2⟩ := ht ds rfl
    simp only [isTup, if_true, walk_tup]
    refine ⟨h1, lcS_map (fun d => .bl (isWholeD d)) trivial (fun d hd R R0 r => ?_) fun p hp => ?_⟩
    · simp (config := {decide := true}) only [wpSs, DL.wpS, wpE, wpX, star_tup, star_ref, wpEs, wpEn, wpO, wpCh, wpB, wpBs, wpBo, wpI, wpT, wpTs, boolOf, startR, CTs.len, CEs.len, CEs.isNil, upto_ff, upto_tt, List.length_cons, List.length_nil, List.map_cons, List.map_nil, List.replicate, List.cons_append, List.nil_append, List.append_nil, List.set_cons_zero, List.set_cons_succ, bind_some, bind_none, getV_nil, getV_0s, getV_0n, getV_s, if_true, if_false, Bool.false_eq_true, ite_self, true_and, and_true, blt_len, blt_abs, blt_max, blt_min, blt_sum, blt_all, blt_any, blt_repr, blt_isi, lst_ref, len_tup, len_str, len_ref, bty_int, bty_bool, bty_str, bty_strs, bty_tup, bty_tupl, bty_lst, bty_lstl, bin_add, bin_sub, bin_mul, bin_div, bin_mod, bin_pow, bin_adds, bin_addt, bin_mult, bin_addl, cmp_lt, cmp_le, cmp_gt, cmp_ge, cmp_eq, cmp_ne, cmp_eqs, cmp_nes, cmp_eqt, cmp_net, cmp_is, cmp_isn, tru_non, tru_bl', tru_int, tru_str, tru_tup, tru_ref, neg_int, ix_tup', ix_str', ix_ref', sl_tup', sl_str', sl_ref', rev_tup', part_int, walk_tup, walk_ref, walk_str, rng_1, rng_2, set_ref, aug_add, aug_sub, rg_1, rg_2, atI_0, atI_1, atI_2, ixN3_0, ixN3_1, ixN3_2, ex_lst, DS.put_same, lstAt_put]
      exact ⟨d, rfl, h2 d hd, r⟩
    · simp only [List.nil_append, lstAt_put, bind_some, boolsOf_map (fun _ _ => rfl), List.all_map]
      exact fgtQ_le (put_le hp) q
  | _ => exact fgtQ_same q

def cProd : FC := fun ds S Q _ => ∃ (x y : M2) (n m : Nat), ds = [x.toD, y.toD] ∧ x.Bd n ∧ y.Bd m ∧ n + m < 1000000 ∧ Q (x.mul y).toD S
theorem kProd (G : GS) (Γ : Ga) : Keeps G Γ fProd cProd := by
  rintro ds S Q E ⟨x, y, n, m, rfl, hx, hy, l, q⟩
  simp (config := {decide := true}) only [fProd, M2.toD, wpSs, DL.wpS, wpE, wpX, star_tup, star_ref, wpEs, wpEn, wpO, wpCh, wpB, wpBs, wpBo, wpI, wpT, wpTs, boolOf, startR, CTs.len, CEs.len, CEs.isNil, upto_ff, upto_tt, List.length_cons, List.length_nil, List.map_cons, List.map_nil, List.replicate, List.cons_append, List.nil_append, List.append_nil, List.set_cons_zero, List.set_cons_succ, bind_some, bind_none, getV_nil, getV_0s, getV_0n, getV_s, if_true, if_false, Bool.false_eq_true, ite_self, true_and, and_true, blt_len, blt_abs, blt_max, blt_min, blt_sum, blt_all, blt_any, blt_repr, blt_isi, lst_ref, len_tup, len_str, len_ref, bty_int, bty_bool, bty_str, bty_strs, bty_tup, bty_tupl, bty_lst, bty_lstl, bin_add, bin_sub, bin_mul, bin_div, bin_mod, bin_pow, bin_adds, bin_addt, bin_mult, bin_addl, cmp_lt, cmp_le, cmp_gt, cmp_ge, cmp_eq, cmp_ne, cmp_eqs, cmp_nes, cmp_eqt, cmp_net, cmp_is, cmp_isn, tru_non, tru_bl', tru_int, tru_str, tru_tup, tru_ref, neg_int, ix_tup', ix_str', ix_ref', sl_tup', sl_str', sl_ref', rev_tup', part_int, walk_tup, walk_ref, walk_str, rng_1, rng_2, set_ref, aug_add, aug_sub, rg_1, rg_2, atI_0, atI_1, atI_2, ixN3_0, ixN3_1, ixN3_2, ex_lst, DS.put_same, lstAt_put]
  exact ⟨mulOk_bd hx.a hy.a l, mulOk_bd hx.b hy.c l, mulOk_bd hx.a hy.b l, mulOk_bd hx.b hy.d l, mulOk_bd hx.c hy.a l, mulOk_bd hx.d hy.c l, mulOk_bd hx.c hy.b l, mulOk_bd hx.d hy.d l, fgtQ_same q⟩
def cTurn : FC := fun ds S Q _ => ∃ i, ds = [.int i] ∧ Q (M2.turn i).toD S
theorem kTurn (G : GS) (Γ : Ga) : Keeps G Γ fTurn cTurn := by
  rintro ds S Q E ⟨i, rfl, q⟩
  simp (config := {decide := true}) only [fTurn, wpSs, DL.wpS, wpE, wpX, star_tup, star_ref, wpEs, wpEn, wpO, wpCh, wpB, wpBs, wpBo, wpI, wpT, wpTs, boolOf, startR, CTs.len, CEs.len, CEs.isNil, upto_ff, upto_tt, List.length_cons, List.length_nil, List.map_cons, List.map_nil, List.replicate, List.cons_append, List.nil_append, List.append_nil, List.set_cons_zero, List.set_cons_succ, bind_some, bind_none, getV_nil, getV_0s, getV_0n, getV_s, if_true, if_false, Bool.false_eq_true, ite_self, true_and, and_true, blt_len, blt_abs, blt_max, blt_min, blt_sum, blt_all, blt_any, blt_repr, blt_isi, lst_ref, len_tup, len_str, len_ref, bty_int, bty_bool, bty_str, bty_strs, bty_tup, bty_tupl, bty_lst, bty_lstl, bin_add, bin_sub, bin_mul, bin_div, bin_mod, bin_pow, bin_adds, bin_addt, bin_mult, bin_addl, cmp_lt, cmp_le, cmp_gt, cmp_ge, cmp_eq, cmp_ne, cmp_eqs, cmp_nes, cmp_eqt, cmp_net, cmp_is, cmp_isn, tru_non, tru_bl', tru_int, tru_str, tru_tup, tru_ref, neg_int, ix_tup', ix_str', ix_ref', sl_tup', sl_str', sl_ref', rev_tup', part_int, walk_tup, walk_ref, walk_str, rng_1, rng_2, set_ref, aug_add, aug_sub, rg_1, rg_2, atI_0, atI_1, atI_2, ixN3_0, ixN3_1, ixN3_2, ex_lst, DS.put_same, lstAt_put]
  exact fgtQ_same q
/-- numbers of at most 20 bits -/
def Sm (is : List Int) : Prop := ∀ i ∈ is, bd 20 i
def cTurns : FC := fun ds S Q _ => ∃ is, ds = [intsD is] ∧ Sm is ∧ is.length ≤ 2000 ∧ Q (M2.turns is).toD S
theorem take_succ_get {α : Type} {l : List α} {i : Nat} {d : α} (h : l[i]? = some d) : l.take (i + 1) = l.take i ++ [d] := by
  rw [List.take_succ, h]; rfl
theorem kTurns (G : GS) (Γ : Ga) {i4 i5 v0 : Nat} (g0 : Γ.gv v0 = M2.one.toD) (g4 : Γ.fn i4 = cProd) (g5 : Γ.fn i5 = cTurn) : Keeps G Γ (fTurns i4 i5 v0) cTurns := by
  rintro ds S Q E ⟨is, rfl, hs, hl, q⟩
  simp (config := {decide := true}) only [fTurns, intsD, wpSs, DL.wpS, wpE, wpX, star_tup, star_ref, wpEs, wpEn, wpO, wpCh, wpB, wpBs, wpBo, wpI, wpT, wpTs, boolOf, startR, CTs.len, CEs.len, CEs.isNil, upto_ff, upto_tt, List.length_cons, List.length_nil, List.map_cons, List.map_nil, List.replicate, List.cons_append, List.nil_append, List.append_nil, List.set_cons_zero, List.set_cons_succ, bind_some, bind_none, getV_nil, getV_0s, getV_0n, getV_s, if_true, if_false, Bool.false_eq_true, ite_self, true_and, and_true, blt_len, blt_abs, blt_max, blt_min, blt_sum, blt_all, blt_any, blt_repr, blt_isi, lst_ref, len_tup, len_str, len_ref, bty_int, bty_bool, bty_str, bty_strs, bty_tup, bty_tupl, bty_lst, bty_lstl, bin_add, bin_sub, bin_mul, bin_div, bin_mod, bin_pow, bin_adds, bin_addt, bin_mult, bin_addl, cmp_lt, cmp_le, cmp_gt, cmp_ge, cmp_eq, cmp_ne, cmp_eqs, cmp_nes, cmp_eqt, cmp_net, cmp_is, cmp_isn, tru_non, tru_bl', tru_int, tru_str, tru_tup, tru_ref, neg_int, ix_tup', ix_str', ix_ref', sl_tup', sl_str', sl_ref', rev_tup', part_int, walk_tup, walk_ref, walk_str, rng_1, rng_2, set_ref, aug_add, aug_sub, rg_1, rg_2, atI_0, atI_1, atI_2, ixN3_0, ixN3_1, ixN3_2, ex_lst, DS.put_same, lstAt_put, g0]
  refine forS_ind (fun i ρ S' => S' = S ∧ ρ = [some (intsD is), some (M2.turns (is.take i)).toD, none]) (fun i d ρ S' hd hp => ⟨trivial, fun K hK => ?_⟩) (fun ρ S' hp => ⟨trivial, ?_⟩) ⟨rfl, rfl⟩
  · obtain ⟨rfl, rfl⟩ := hp
    rw [List.getElem?_map] at hd
    cases e : is[i]? with
    | none => rw [e] at hd; cases hd
    | some n =>
      rw [e] at hd; cases hd
      simp (config := {decide := true}) only [wpSs, DL.wpS, wpE, wpX, star_tup, star_ref, wpEs, wpEn, wpO, wpCh, wpB, wpBs, wpBo, wpI, wpT, wpTs, boolOf, startR, CTs.len, CEs.len, CEs.isNil, upto_ff, upto_tt, List.length_cons, List.length_nil, List.map_cons, List.map_nil, List.replicate, List.cons_append, List.nil_append, List.append_nil, List.set_cons_zero, List.set_cons_succ, bind_some, bind_none, getV_nil, getV_0s, getV_0n, getV_s, if_true, if_false, Bool.false_eq_true, ite_self, true_and, and_true, blt_len, blt_abs, blt_max, blt_min, blt_sum, blt_all, blt_any, blt_repr, blt_isi, lst_ref, len_tup, len_str, len_ref, bty_int, bty_bool, bty_str, bty_strs, bty_tup, bty_tupl, bty_lst, bty_lstl, bin_add, bin_sub, bin_mul, bin_div, bin_mod, bin_pow, bin_adds, bin_addt, bin_mult, bin_addl, cmp_lt, cmp_le, cmp_gt, cmp_ge, cmp_eq, cmp_ne, cmp_eqs, cmp_nes, cmp_eqt, cmp_net, cmp_is, cmp_isn, tru_non, tru_bl', tru_int, tru_str, tru_tup, tru_ref, neg_int, ix_tup', ix_str', ix_ref', sl_tup', sl_str', sl_ref', rev_tup', part_int, walk_tup, walk_ref, walk_str, rng_1, rng_2, set_ref, aug_add, aug_sub, rg_1, rg_2, atI_0, atI_1, atI_2, ixN3_0, ixN3_1, ixN3_2, ex_lst, DS.put_same, lstAt_put, g4, g5]
      have hm : n ∈ is := List.mem_of_getElem? e
      have li : i < is.length := (List.getElem?_eq_some_iff.mp e).1
      refine ⟨n, rfl, M2.turns (is.take i), M2.turn n, _, _, rfl, M2.bd_turns (n := 20) (by decide) (fun j hj => hs j (List.mem_of_mem_take hj)), M2.bd_turn (hs n hm) (by decide), ?_, hK _ _ ⟨_, _, .cons (.cons (.cons .nil (.inr rfl)) (.inl rfl)) (.inl rfl), LeS.refl _, rfl, ?_⟩⟩
      · rw [List.length_take]; omega
      · rw [take_succ_get e, M2.turns_append]
        simp [M2.turns, M2.one_mul]
  · obtain ⟨rfl, rfl⟩ := hp
    rw [List.length_map, List.take_length]
    simp (config := {decide := true}) only [wpSs, DL.wpS, wpE, wpX, star_tup, star_ref, wpEs, wpEn, wpO, wpCh, wpB, wpBs, wpBo, wpI, wpT, wpTs, boolOf, startR, CTs.len, CEs.len, CEs.isNil, upto_ff, upto_tt, List.length_cons, List.length_nil, List.map_cons, List.map_nil, List.replicate, List.cons_append, List.nil_append, List.append_nil, List.set_cons_zero, List.set_cons_succ, bind_some, bind_none, getV_nil, getV_0s, getV_0n, getV_s, if_true, if_false, Bool.false_eq_true, ite_self, true_and, and_true, blt_len, blt_abs, blt_max, blt_min, blt_sum, blt_all, blt_any, blt_repr, blt_isi, lst_ref, len_tup, len_str, len_ref, bty_int, bty_bool, bty_str, bty_strs, bty_tup, bty_tupl, bty_lst, bty_lstl, bin_add, bin_sub, bin_mul, bin_div, bin_mod, bin_pow, bin_adds, bin_addt, bin_mult, bin_addl, cmp_lt, cmp_le, cmp_gt, cmp_ge, cmp_eq, cmp_ne, cmp_eqs, cmp_nes, cmp_eqt, cmp_net, cmp_is, cmp_isn, tru_non, tru_bl', tru_int, tru_str, tru_tup, tru_ref, neg_int, ix_tup', ix_str', ix_ref', sl_tup', sl_str', sl_ref', rev_tup', part_int, walk_tup, walk_ref, walk_str, rng_1, rng_2, set_ref, aug_add, aug_sub, rg_1, rg_2, atI_0, atI_1, atI_2, ixN3_0, ixN3_1, ixN3_2, ex_lst, DS.put_same, lstAt_put]
    exact fgtQ_same q

def smallD (v : D) : Bool := match v with
  | .int i => decide ((i.natAbs : Int) ≤ 1000000)
  | _ => false
def isRowD (v : D) : Bool := match v with
  | .tup ds => ds.all isWholeD && decide (ds.length ≤ 40) && ds.all smallD
  | _ => false
def cIsRow : FC := fun ds S Q _ => ∃ v, ds = [v] ∧ TyT S v ∧ Q (.bl (isRowD v)) S
theorem kIsRow (G : GS) (Γ : Ga) {i3 v1 v2 : Nat} (g1 : Γ.gv v1 = .int 1000000) (g2 : Γ.gv v2 = .int 40) (g3 : Γ.fn i3 = cAreWholes) : Keeps G Γ (fIsRow i3 v1 v2) cIsRow := by
  rintro ds S Q E ⟨v, rfl, hv, q⟩
  simp (config := {decide := true}) only [fIsRow, wpSs, DL.wpS, wpE, wpX, star_tup, star_ref, wpEs, wpEn, wpO, wpCh, wpB, wpBs, wpBo, wpI, wpT, wpTs, boolOf, startR, CTs.len, CEs.len, CEs.isNil, upto_ff, upto_tt, List.length_cons, List.length_nil, List.map_cons, List.map_nil, List.replicate, List.cons_append, List.nil_append, List.append_nil, List.set_cons_zero, List.set_cons_succ, bind_some, bind_none, getV_nil, getV_0s, getV_0n, getV_s, if_true, if_false, Bool.false_eq_true, ite_self, true_and, and_true, blt_len, blt_abs, blt_max, blt_min, blt_sum, blt_all, blt_any, blt_repr, blt_isi, lst_ref, len_tup, len_str, len_ref, bty_int, bty_bool, bty_str, bty_strs, bty_tup, bty_tupl, bty_lst, bty_lstl, bin_add, bin_sub, bin_mul, bin_div, bin_mod, bin_pow, bin_adds, bin_addt, bin_mult, bin_addl, cmp_lt, cmp_le, cmp_gt, cmp_ge, cmp_eq, cmp_ne, cmp_eqs, cmp_nes, cmp_eqt, cmp_net, cmp_is, cmp_isn, tru_non, tru_bl', tru_int, tru_str, tru_tup, tru_ref, neg_int, ix_tup', ix_str', ix_ref', sl_tup', sl_str', sl_ref', rev_tup', part_int, walk_tup, walk_ref, walk_str, rng_1, rng_2, set_ref, aug_add, aug_sub, rg_1, rg_2, atI_0, atI_1, atI_2, ixN3_0, ixN3_1, ixN3_2, ex_lst, DS.put_same, lstAt_put, g1, g2, g3]
  refine ⟨v, rfl, hv, ?_⟩
  cases v with
  | tup ds =>
    obtain ⟨h1, h2⟩ := hv.2 ds rfl
    simp only [allWhole, wpSs, DL.wpS, wpE, wpX, star_tup, star_ref, wpEs, wpEn, wpO, wpCh, wpB, wpBs, wpBo, wpI, wpT, wpTs, boolOf, startR, CTs.len, CEs.len, CEs.isNil, upto_ff, upto_tt, List.length_cons, List.length_nil, List.map_cons, List.map_nil, List.replicate, List.cons_append, List.nil_append, List.append_nil, List.set_cons_zero, List.set_cons_succ, bind_some, bind_none, getV_nil, getV_0s, getV_0n, getV_s, if_true, if_false, Bool.false_eq_true, ite_self, true_and, and_true, blt_len, blt_abs, blt_max, blt_min, blt_sum, blt_all, blt_any, blt_repr, blt_isi, lst_ref, len_tup, len_str, len_ref, bty_int, bty_bool, bty_str, bty_strs, bty_tup, bty_tupl, bty_lst, bty_lstl, bin_add, bin_sub, bin_mul, bin_div, bin_mod, bin_pow, bin_adds, bin_addt, bin_mult, bin_addl, cmp_lt, cmp_le, cmp_gt, cmp_ge, cmp_eq, cmp_ne, cmp_eqs, cmp_nes, cmp_eqt, cmp_net, cmp_is, cmp_isn, tru_non, tru_bl', tru_int, tru_str, tru_tup, tru_ref, neg_int, ix_tup', ix_str', ix_ref', sl_tup', sl_str', sl_ref', rev_tup', part_int, walk_tup, walk_ref, walk_str, rng_1, rng_2, set_ref, aug_add, aug_sub, rg_1, rg_2, atI_0, atI_1, atI_2, ixN3_0, ixN3_1, ixN3_2, ex_lst, DS.put_same, lstAt_put]
    cases hw : ds.all isWholeD with
    | false =>
      simp only [wpSs, DL.wpS, wpE, wpX, star_tup, star_ref, wpEs, wpEn, wpO, wpCh, wpB, wpBs, wpBo, wpI, wpT, wpTs, boolOf, startR, CTs.len, CEs.len, CEs.isNil, upto_ff, upto_tt, List.length_cons, List.length_nil, List.map_cons, List.map_nil, List.replicate, List.cons_append, List.nil_append, List.append_nil, List.set_cons_zero, List.set_cons_succ, bind_some, bind_none, getV_nil, getV_0s, getV_0n, getV_s, if_true, if_false, Bool.false_eq_true, ite_self, true_and, and_true, blt_len, blt_abs, blt_max, blt_min, blt_sum, blt_all, blt_any, blt_repr, blt_isi, lst_ref, len_tup, len_str, len_ref, bty_int, bty_bool, bty_str, bty_strs, bty_tup, bty_tupl, bty_lst, bty_lstl, bin_add, bin_sub, bin_mul, bin_div, bin_mod, bin_pow, bin_adds, bin_addt, bin_mult, bin_addl, cmp_lt, cmp_le, cmp_gt, cmp_ge, cmp_eq, cmp_ne, cmp_eqs, cmp_nes, cmp_eqt, cmp_net, cmp_is, cmp_isn, tru_non, tru_bl', tru_int, tru_str, tru_tup, tru_ref, neg_int, ix_tup', ix_str', ix_ref', sl_tup', sl_str', sl_ref', rev_tup', part_int, walk_tup, walk_ref, walk_str, rng_1, rng_2, set_ref, aug_add, aug_sub, rg_1, rg_2, atI_0, atI_1, atI_2, ixN3_0, ixN3_1, ixN3_2, ex_lst, DS.put_same, lstAt_put, Bool.not_false]
      exact fgtQ_same (by simpa [isRowD, hw] using q)
    | true =>
      simp only [wpSs, DL.wpS, wpE, wpX, star_tup, star_ref, wpEs, wpEn, wpO, wpCh, wpB, wpBs, wpBo, wpI, wpT, wpTs, boolOf, startR, CTs.len, CEs.len, CEs.isNil, upto_ff, upto_tt, List.length_cons, List.length_nil, List.map_cons, List.map_nil, List.replicate, List.cons_append, List.nil_append, List.append_nil, List.set_cons_zero, List.set_cons_succ, bind_some, bind_none, getV_nil, getV_0s, getV_0n, getV_s, if_true, if_false, Bool.false_eq_true, ite_self, true_and, and_true, blt_len, blt_abs, blt_max, blt_min, blt_sum, blt_all, blt_any, blt_repr, blt_isi, lst_ref, len_tup, len_str, len_ref, bty_int, bty_bool, bty_str, bty_strs, bty_tup, bty_tupl, bty_lst, bty_lstl, bin_add, bin_sub, bin_mul, bin_div, bin_mod, bin_pow, bin_adds, bin_addt, bin_mult, bin_addl, cmp_lt, cmp_le, cmp_gt, cmp_ge, cmp_eq, cmp_ne, cmp_eqs, cmp_nes, cmp_eqt, cmp_net, cmp_is, cmp_isn, tru_non, tru_bl', tru_int, tru_str, tru_tup, tru_ref, neg_int, ix_tup', ix_str', ix_ref', sl_tup', sl_str', sl_ref', rev_tup', part_int, walk_tup, walk_ref, walk_str, rng_1, rng_2, set_ref, aug_add, aug_sub, rg_1, rg_2, atI_0, atI_1, atI_2, ixN3_0, ixN3_1, ixN3_2, ex_lst, DS.put_same, lstAt_put, Bool.not_true]
      by_cases hl : ds.length ≤ 40
      · have e : decide ((40 : Int) < (ds.length : Int)) = false := decide_eq_false (by omega)
        simp only [e, wpSs, DL.wpS, wpE, wpX, star_tup, star_ref, wpEs, wpEn, wpO, wpCh, wpB, wpBs, wpBo, wpI, wpT, wpTs, boolOf, startR, CTs.len, CEs.len, CEs.isNil, upto_ff, upto_tt, List.length_cons, List.length_nil, List.map_cons, List.map_nil, List.replicate, List.cons_append, List.nil_append, List.append_nil, List.set_cons_zero, List.set_cons_succ, bind_some, bind_none, getV_nil, getV_0s, getV_0n, getV_s, if_true, if_false, Bool.false_eq_true, ite_self, true_and, and_true, blt_len, blt_abs, blt_max, blt_min, blt_sum, blt_all, blt_any, blt_repr, blt_isi, lst_ref, len_tup, len_str, len_ref, bty_int, bty_bool, bty_str, bty_strs, bty_tup, bty_tupl, bty_lst, bty_lstl, bin_add, bin_sub, bin_mul, bin_div, bin_mod, bin_pow, bin_adds, bin_addt, bin_mult, bin_addl, cmp_lt, cmp_le, cmp_gt, cmp_ge, cmp_eq, cmp_ne, cmp_eqs, cmp_nes, cmp_eqt, cmp_net, cmp_is, cmp_isn, tru_non, tru_bl', tru_int, tru_str, tru_tup, tru_ref, neg_int, ix_tup', ix_str', ix_ref', sl_tup', sl_str', sl_ref', rev_tup', part_int, walk_tup, walk_ref, walk_str, rng_1, rng_2, set_ref, aug_add, aug_sub, rg_1, rg_2, atI_0, atI_1, atI_2, ixN3_0, ixN3_1, ixN3_2, ex_lst, DS.put_same, lstAt_put, lcQ, wipeR]
        refine ⟨h1, lcS_map (fun d => .bl (smallD d)) trivial (fun d hd R R0 r => ?_) fun p hp => ?_⟩
        · have := List.all_eq_true.mp hw d hd
          cases d with
          | int i =>
            simp (config := {decide := true}) only [wpSs, DL.wpS, wpE, wpX, star_tup, star_ref, wpEs, wpEn, wpO, wpCh, wpB, wpBs, wpBo, wpI, wpT, wpTs, boolOf, startR, CTs.len, CEs.len, CEs.isNil, upto_ff, upto_tt, List.length_cons, List.length_nil, List.map_cons, List.map_nil, List.replicate, List.cons_append, List.nil_append, List.append_nil, List.set_cons_zero, List.set_cons_succ, bind_some, bind_none, getV_nil, getV_0s, getV_0n, getV_s, if_true, if_false, Bool.false_eq_true, ite_self, true_and, and_true, blt_len, blt_abs, blt_max, blt_min, blt_sum, blt_all, blt_any, blt_repr, blt_isi, lst_ref, len_tup, len_str, len_ref, bty_int, bty_bool, bty_str, bty_strs, bty_tup, bty_tupl, bty_lst, bty_lstl, bin_add, bin_sub, bin_mul, bin_div, bin_mod, bin_pow, bin_adds, bin_addt, bin_mult, bin_addl, cmp_lt, cmp_le, cmp_gt, cmp_ge, cmp_eq, cmp_ne, cmp_eqs, cmp_nes, cmp_eqt, cmp_net, cmp_is, cmp_isn, tru_non, tru_bl', tru_int, tru_str, tru_tup, tru_ref, neg_int, ix_tup', ix_str', ix_ref', sl_tup', sl_str', sl_ref', rev_tup', part_int, walk_tup, walk_ref, walk_str, rng_1, rng_2, set_ref, aug_add, aug_sub, rg_1, rg_2, atI_0, atI_1, atI_2, ixN3_0, ixN3_1, ixN3_2, ex_lst, DS.put_same, lstAt_put]
            exact r
          | _ => cases this
        · simp only [List.nil_append, lstAt_put, bind_some, boolsOf_map (fun _ _ => rfl), List.all_map]
          refine fgtQ_le (put_le hp) ?_
          have e2 : isRowD (.tup ds) = ds.all smallD := by simp [isRowD, hw, hl]
          rw [e2] at q
          exact q
      · have e : decide ((40 : Int) < (ds.length : Int)) = true := decide_eq_true (by omega)
        simp only [e, wpSs, DL.wpS, wpE, wpX, star_tup, star_ref, wpEs, wpEn, wpO, wpCh, wpB, wpBs, wpBo, wpI, wpT, wpTs, boolOf, startR, CTs.len, CEs.len, CEs.isNil, upto_ff, upto_tt, List.length_cons, List.length_nil, List.map_cons, List.map_nil, List.replicate, List.cons_append, List.nil_append, List.append_nil, List.set_cons_zero, List.set_cons_succ, bind_some, bind_none, getV_nil, getV_0s, getV_0n, getV_s, if_true, if_false, Bool.false_eq_true, ite_self, true_and, and_true, blt_len, blt_abs, blt_max, blt_min, blt_sum, blt_all, blt_any, blt_repr, blt_isi, lst_ref, len_tup, len_str, len_ref, bty_int, bty_bool, bty_str, bty_strs, bty_tup, bty_tupl, bty_lst, bty_lstl, bin_add, bin_sub, bin_mul, bin_div, bin_mod, bin_pow, bin_adds, bin_addt, bin_mult, bin_addl, cmp_lt, cmp_le, cmp_gt, cmp_ge, cmp_eq, cmp_ne, cmp_eqs, cmp_nes, cmp_eqt, cmp_net, cmp_is, cmp_isn, tru_non, tru_bl', tru_int, tru_str, tru_tup, tru_ref, neg_int, ix_tup', ix_str', ix_ref', sl_tup', sl_str', sl_ref', rev_tup', part_int, walk_tup, walk_ref, walk_str, rng_1, rng_2, set_ref, aug_add, aug_sub, rg_1, rg_2, atI_0, atI_1, atI_2, ixN3_0, ixN3_1, ixN3_2, ex_lst, DS.put_same, lstAt_put]
        exact fgtQ_same (by simpa [isRowD, hl] using q)
  | _ => exact fgtQ_same q
def cLookRow : FC := fun ds S Q E => ∃ v, ds = [v] ∧ TyT S v ∧ (isRowD v = true → Q .non S) ∧ (isRowD v = false → E "BadRow" v S)
theorem kLookRow (G : GS) (Γ : Ga) {i7 : Nat} (g7 : Γ.fn i7 = cIsRow) : Keeps G Γ (fLookRow i7) cLookRow := by
  rintro ds S Q E ⟨v, rfl, hv, q1, q2⟩
  simp (config := {decide := true}) only [fLookRow, wpSs, DL.wpS, wpE, wpX, star_tup, star_ref, wpEs, wpEn, wpO, wpCh, wpB, wpBs, wpBo, wpI, wpT, wpTs, boolOf, startR, CTs.len, CEs.len, CEs.isNil, upto_ff, upto_tt, List.length_cons, List.length_nil, List.map_cons, List.map_nil, List.replicate, List.cons_append, List.nil_append, List.append_nil, List.set_cons_zero, List.set_cons_succ, bind_some, bind_none, getV_nil, getV_0s, getV_0n, getV_s, if_true, if_false, Bool.false_eq_true, ite_self, true_and, and_true, blt_len, blt_abs, blt_max, blt_min, blt_sum, blt_all, blt_any, blt_repr, blt_isi, lst_ref, len_tup, len_str, len_ref, bty_int, bty_bool, bty_str, bty_strs, bty_tup, bty_tupl, bty_lst, bty_lstl, bin_add, bin_sub, bin_mul, bin_div, bin_mod, bin_pow, bin_adds, bin_addt, bin_mult, bin_addl, cmp_lt, cmp_le, cmp_gt, cmp_ge, cmp_eq, cmp_ne, cmp_eqs, cmp_nes, cmp_eqt, cmp_net, cmp_is, cmp_isn, tru_non, tru_bl', tru_int, tru_str, tru_tup, tru_ref, neg_int, ix_tup', ix_str', ix_ref', sl_tup', sl_str', sl_ref', rev_tup', part_int, walk_tup, walk_ref, walk_str, rng_1, rng_2, set_ref, aug_add, aug_sub, rg_1, rg_2, atI_0, atI_1, atI_2, ixN3_0, ixN3_1, ixN3_2, ex_lst, DS.put_same, lstAt_put, g7]
  refine ⟨v, rfl, hv, ?_⟩
  cases h : isRowD v with
  | true => exact fgtQ_same (q1 h)
  | false => exact eE_same (q2 h)
/-- a row, as numbers -/
def rowOf : D → List Int
  | .tup ds => (tupInts ds).getD []
  | _ => []
theorem tupInts_all : ∀ {ds : List D}, ds.all isWholeD = true → ∃ is : List Int, ds = is.map .int
  | [], _ => ⟨[], rfl⟩
  | d :: ds, h => by
    rw [List.all_cons, Bool.and_eq_true] at h
    obtain ⟨is, rfl⟩ := tupInts_all h.2
    cases d with
    | int i => exact ⟨i :: is, rfl⟩
    | _ => exact absurd h.1 Bool.false_ne_true
theorem isRow_ex {v : D} (h : isRowD v = true) : ∃ is, v = intsD is ∧ Sm is ∧ is.length ≤ 40 ∧ ∀ i ∈ is, i.natAbs ≤ 1000000 := by
  cases v with
  | tup ds =>
    simp only [isRowD, Bool.and_eq_true, decide_eq_true_eq] at h
    obtain ⟨is, rfl⟩ := tupInts_all h.1.1
    have hb : ∀ i ∈ is, i.natAbs ≤ 1000000 := fun i hi => by
      have := List.all_eq_true.mp h.2 (.int i) (List.mem_map.mpr ⟨i, hi, rfl⟩)
      simp only [smallD, decide_eq_true_eq] at this
      omega
    exact ⟨is, rfl, fun i hi => Nat.lt_of_le_of_lt (hb i hi) (by decide), by simpa using h.1.2, hb⟩
  | _ => cases h
theorem isRow_ints {is : List Int} (hl : is.length ≤ 40) (hb : ∀ i ∈ is, i.natAbs ≤ 1000000) : isRowD (intsD is) = true := by
  simp only [isRowD, intsD, Bool.and_eq_true, decide_eq_true_eq, List.all_map, List.all_eq_true, List.length_map]
  exact ⟨⟨fun i _ => rfl, hl⟩, fun i hi => by
    show decide ((i.natAbs : Int) ≤ 1000000) = true
    have := hb i hi
    exact decide_eq_true (by omega)⟩
def cTurnsOf : FC := fun ds S Q E => ∃ v, ds = [v] ∧ TyT S v ∧ (∀ is, v = intsD is → isRowD v = true → Q (M2.turns is).toD S) ∧ (isRowD v = false → E "BadRow" v S)
theorem kTurnsOf (G : GS) (Γ : Ga) {i6 i8 : Nat} (g6 : Γ.fn i6 = cTurns) (g8 : Γ.fn i8 = cLookRow) : Keeps G Γ (fTurnsOf i6 i8) cTurnsOf := by
  rintro ds S Q E ⟨v, rfl, hv, q1, q2⟩
  simp (config := {decide := true}) only [fTurnsOf, wpSs, DL.wpS, wpE, wpX, star_tup, star_ref, wpEs, wpEn, wpO, wpCh, wpB, wpBs, wpBo, wpI, wpT, wpTs, boolOf, startR, CTs.len, CEs.len, CEs.isNil, upto_ff, upto_tt, List.length_cons, List.length_nil, List.map_cons, List.map_nil, List.replicate, List.cons_append, List.nil_append, List.append_nil, List.set_cons_zero, List.set_cons_succ, bind_some, bind_none, getV_nil, getV_0s, getV_0n, getV_s, if_true, if_false, Bool.false_eq_true, ite_self, true_and, and_true, blt_len, blt_abs, blt_max, blt_min, blt_sum, blt_all, blt_any, blt_repr, blt_isi, lst_ref, len_tup, len_str, len_ref, bty_int, bty_bool, bty_str, bty_strs, bty_tup, bty_tupl, bty_lst, bty_lstl, bin_add, bin_sub, bin_mul, bin_div, bin_mod, bin_pow, bin_adds, bin_addt, bin_mult, bin_addl, cmp_lt, cmp_le, cmp_gt, cmp_ge, cmp_eq, cmp_ne, cmp_eqs, cmp_nes, cmp_eqt, cmp_net, cmp_is, cmp_isn, tru_non, tru_bl', tru_int, tru_str, tru_tup, tru_ref, neg_int, ix_tup', ix_str', ix_ref', sl_tup', sl_str', sl_ref', rev_tup', part_int, walk_tup, walk_ref, walk_str, rng_1, rng_2, set_ref, aug_add, aug_sub, rg_1, rg_2, atI_0, atI_1, atI_2, ixN3_0, ixN3_1, ixN3_2, ex_lst, DS.put_same, lstAt_put, g6, g8]
  refine ⟨v, rfl, hv, fun h => ?_, fun h => eE_same (q2 h)⟩
  obtain ⟨is, rfl, h1, h2, h3⟩ := isRow_ex h
  exact ⟨is, rfl, h1, by omega, fgtQ_same (q1 is rfl h)⟩
def cDet : FC := fun ds S Q _ => ∃ is, ds = [intsD is] ∧ Sm is ∧ is.length ≤ 2000 ∧ Q (.int (cont is)) S
theorem bd_contP : ∀ (k : Nat) {is : List Int}, Sm is → is.length = k → bd (21 * k + 1) (contP is).1 ∧ bd (21 * k + 1) (contP is).2
  | 0, is, _, e => by
    have : is = [] := List.eq_nil_of_length_eq_zero e
    subst this
    exact ⟨by decide, by decide⟩
  | k + 1, is, h, e => by
    have hne : is ≠ [] := fun z => by rw [z] at e; cases e
    have hd := (List.dropLast_concat_getLast hne).symm
    rw [hd, contP_snoc]
    obtain ⟨h1, h2⟩ := bd_contP k (is := is.dropLast) (fun i hi => h i ((List.dropLast_sublist _).subset hi)) (by rw [List.length_dropLast, e]; rfl)
    have hl := h _ (List.getLast_mem hne)
    exact ⟨h2.mono (by omega), ((hl.mul h2).sub (h1.mono (m := 20 + (21 * k + 1)) (by omega))).mono (by omega)⟩
theorem kDet (G : GS) (Γ : Ga) : Keeps G Γ fDet cDet := by
  rintro ds S Q E ⟨is, rfl, hs, hl, q⟩
  simp (config := {decide := true}) only [fDet, intsD, wpSs, DL.wpS, wpE, wpX, star_tup, star_ref, wpEs, wpEn, wpO, wpCh, wpB, wpBs, wpBo, wpI, wpT, wpTs, boolOf, startR, CTs.len, CEs.len, CEs.isNil, upto_ff, upto_tt, List.length_cons, List.length_nil, List.map_cons, List.map_nil, List.replicate, List.cons_append, List.nil_append, List.append_nil, List.set_cons_zero, List.set_cons_succ, bind_some, bind_none, getV_nil, getV_0s, getV_0n, getV_s, if_true, if_false, Bool.false_eq_true, ite_self, true_and, and_true, blt_len, blt_abs, blt_max, blt_min, blt_sum, blt_all, blt_any, blt_repr, blt_isi, lst_ref, len_tup, len_str, len_ref, bty_int, bty_bool, bty_str, bty_strs, bty_tup, bty_tupl, bty_lst, bty_lstl, bin_add, bin_sub, bin_mul, bin_div, bin_mod, bin_pow, bin_adds, bin_addt, bin_mult, bin_addl, cmp_lt, cmp_le, cmp_gt, cmp_ge, cmp_eq, cmp_ne, cmp_eqs, cmp_nes, cmp_eqt, cmp_net, cmp_is, cmp_isn, tru_non, tru_bl', tru_int, tru_str, tru_tup, tru_ref, neg_int, ix_tup', ix_str', ix_ref', sl_tup', sl_str', sl_ref', rev_tup', part_int, walk_tup, walk_ref, walk_str, rng_1, rng_2, set_ref, aug_add, aug_sub, rg_1, rg_2, atI_0, atI_1, atI_2, ixN3_0, ixN3_1, ixN3_2, ex_lst, DS.put_same, lstAt_put]
  refine forS_ind (fun i ρ S' => S' = S ∧ ρ = [some (intsD is), some (.int (contP (is.take i)).1), some (.int (contP (is.take i)).2), none]) (fun i d ρ S' hd hp => ⟨trivial, fun K hK => ?_⟩) (fun ρ S' hp => ⟨trivial, ?_⟩) ⟨rfl, rfl⟩
  · obtain ⟨rfl, rfl⟩ := hp
    rw [List.getElem?_map] at hd
    cases e : is[i]? with
    | none => rw [e] at hd; cases hd
    | some n =>
      rw [e] at hd; cases hd
      simp (config := {decide := true}) only [wpSs, DL.wpS, wpE, wpX, star_tup, star_ref, wpEs, wpEn, wpO, wpCh, wpB, wpBs, wpBo, wpI, wpT, wpTs, boolOf, startR, CTs.len, CEs.len, CEs.isNil, upto_ff, upto_tt, List.length_cons, List.length_nil, List.map_cons, List.map_nil, List.replicate, List.cons_append, List.nil_append, List.append_nil, List.set_cons_zero, List.set_cons_succ, bind_some, bind_none, getV_nil, getV_0s, getV_0n, getV_s, if_true, if_false, Bool.false_eq_true, ite_self, true_and, and_true, blt_len, blt_abs, blt_max, blt_min, blt_sum, blt_all, blt_any, blt_repr, blt_isi, lst_ref, len_tup, len_str, len_ref, bty_int, bty_bool, bty_str, bty_strs, bty_tup, bty_tupl, bty_lst, bty_lstl, bin_add, bin_sub, bin_mul, bin_div, bin_mod, bin_pow, bin_adds, bin_addt, bin_mult, bin_addl, cmp_lt, cmp_le, cmp_gt, cmp_ge, cmp_eq, cmp_ne, cmp_eqs, cmp_nes, cmp_eqt, cmp_net, cmp_is, cmp_isn, tru_non, tru_bl', tru_int, tru_str, tru_tup, tru_ref, neg_int, ix_tup', ix_str', ix_ref', sl_tup', sl_str', sl_ref', rev_tup', part_int, walk_tup, walk_ref, walk_str, rng_1, rng_2, set_ref, aug_add, aug_sub, rg_1, rg_2, atI_0, atI_1, atI_2, ixN3_0, ixN3_1, ixN3_2, ex_lst, DS.put_same, lstAt_put]
      have hm : n ∈ is := List.mem_of_getElem? e
      have li : i < is.length := (List.getElem?_eq_some_iff.mp e).1
      obtain ⟨b1, b2⟩ := bd_contP i (is := is.take i) (fun j hj => hs j (List.mem_of_mem_take hj)) (by rw [List.length_take]; omega)
      refine ⟨mulOk_bd (hs n hm) b2 (by omega), hK _ _ ⟨_, _, .cons (.cons (.cons (.cons .nil (.inr rfl)) (.inl rfl)) (.inl rfl)) (.inl rfl), LeS.refl _, rfl, ?_⟩⟩
      rw [take_succ_get e, contP_snoc]
      rfl
  · obtain ⟨rfl, rfl⟩ := hp
    rw [List.length_map, List.take_length]
    simp (config := {decide := true}) only [wpSs, DL.wpS, wpE, wpX, star_tup, star_ref, wpEs, wpEn, wpO, wpCh, wpB, wpBs, wpBo, wpI, wpT, wpTs, boolOf, startR, CTs.len, CEs.len, CEs.isNil, upto_ff, upto_tt, List.length_cons, List.length_nil, List.map_cons, List.map_nil, List.replicate, List.cons_append, List.nil_append, List.append_nil, List.set_cons_zero, List.set_cons_succ, bind_some, bind_none, getV_nil, getV_0s, getV_0n, getV_s, if_true, if_false, Bool.false_eq_true, ite_self, true_and, and_true, blt_len, blt_abs, blt_max, blt_min, blt_sum, blt_all, blt_any, blt_repr, blt_isi, lst_ref, len_tup, len_str, len_ref, bty_int, bty_bool, bty_str, bty_strs, bty_tup, bty_tupl, bty_lst, bty_lstl, bin_add, bin_sub, bin_mul, bin_div, bin_mod, bin_pow, bin_adds, bin_addt, bin_mult, bin_addl, cmp_lt, cmp_le, cmp_gt, cmp_ge, cmp_eq, cmp_ne, cmp_eqs, cmp_nes, cmp_eqt, cmp_net, cmp_is, cmp_isn, tru_non, tru_bl', tru_int, tru_str, tru_tup, tru_ref, neg_int, ix_tup', ix_str', ix_ref', sl_tup', sl_str', sl_ref', rev_tup', part_int, walk_tup, walk_ref, walk_str, rng_1, rng_2, set_ref, aug_add, aug_sub, rg_1, rg_2, atI_0, atI_1, atI_2, ixN3_0, ixN3_1, ixN3_2, ex_lst, DS.put_same, lstAt_put]
    exact fgtQ_same q
def cCont : FC := fun ds S Q E => ∃ v, ds = [v] ∧ TyT S v ∧ (∀ is, v = intsD is → isRowD v = true → Q (.int (cont is)) S) ∧ (isRowD v = false → E "BadRow" v S)
theorem kCont (G : GS) (Γ : Ga) {i8 i10 : Nat} (g8 : Γ.fn i8 = cLookRow) (g10 : Γ.fn i10 = cDet) : Keeps G Γ (fCont i8 i10) cCont := by
  rintro ds S Q E ⟨v, rfl, hv, q1, q2⟩
  simp (config := {decide := true}) only [fCont, wpSs, DL.wpS, wpE, wpX, star_tup, star_ref, wpEs, wpEn, wpO, wpCh, wpB, wpBs, wpBo, wpI, wpT, wpTs, boolOf, startR, CTs.len, CEs.len, CEs.isNil, upto_ff, upto_tt, List.length_cons, List.length_nil, List.map_cons, List.map_nil, List.replicate, List.cons_append, List.nil_append, List.append_nil, List.set_cons_zero, List.set_cons_succ, bind_some, bind_none, getV_nil, getV_0s, getV_0n, getV_s, if_true, if_false, Bool.false_eq_true, ite_self, true_and, and_true, blt_len, blt_abs, blt_max, blt_min, blt_sum, blt_all, blt_any, blt_repr, blt_isi, lst_ref, len_tup, len_str, len_ref, bty_int, bty_bool, bty_str, bty_strs, bty_tup, bty_tupl, bty_lst, bty_lstl, bin_add, bin_sub, bin_mul, bin_div, bin_mod, bin_pow, bin_adds, bin_addt, bin_mult, bin_addl, cmp_lt, cmp_le, cmp_gt, cmp_ge, cmp_eq, cmp_ne, cmp_eqs, cmp_nes, cmp_eqt, cmp_net, cmp_is, cmp_isn, tru_non, tru_bl', tru_int, tru_str, tru_tup, tru_ref, neg_int, ix_tup', ix_str', ix_ref', sl_tup', sl_str', sl_ref', rev_tup', part_int, walk_tup, walk_ref, walk_str, rng_1, rng_2, set_ref, aug_add, aug_sub, rg_1, rg_2, atI_0, atI_1, atI_2, ixN3_0, ixN3_1, ixN3_2, ex_lst, DS.put_same, lstAt_put, g8, g10]
  refine ⟨v, rfl, hv, fun h => ?_, fun h => eE_same (q2 h)⟩
  obtain ⟨is, rfl, h1, h2, h3⟩ := isRow_ex h
  exact ⟨is, rfl, h1, by omega, fgtQ_same (q1 is rfl h)⟩
def cAgain : FC := fun ds S Q E => ∃ v m, ds = [v, m] ∧ TyT S v ∧ Ty S m ∧ (isRowD v = false → E "BadRow" v S) ∧ (isRowD v = true → isIntD m 0 40 = false → E "BadInt" m S) ∧
  (∀ is k, v = intsD is → m = .int k → isRowD v = true → isIntD m 0 40 = true → Q ((M2.turns is).pow k.toNat).toD S)
theorem kAgain (G : GS) (Γ : Ga) {i2 i4 i6 i8 v0 v2 : Nat} (g0 : Γ.gv v0 = M2.one.toD) (g2' : Γ.gv v2 = .int 40) (g2 : Γ.fn i2 = cLookInt) (g4 : Γ.fn i4 = cProd) (g6 : Γ.fn i6 = cTurns) (g8 : Γ.fn i8 = cLookRow) : Keeps G Γ (fAgain i2 i4 i6 i8 v0 v2) cAgain := by
  rintro ds S Q E ⟨v, m, rfl, hv, hm, q1, q2, q3⟩
  simp (config := {decide := true}) only [fAgain, wpSs, DL.wpS, wpE, wpX, star_tup, star_ref, wpEs, wpEn, wpO, wpCh, wpB, wpBs, wpBo, wpI, wpT, wpTs, boolOf, startR, CTs.len, CEs.len, CEs.isNil, upto_ff, upto_tt, List.length_cons, List.length_nil, List.map_cons, List.map_nil, List.replicate, List.cons_append, List.nil_append, List.append_nil, List.set_cons_zero, List.set_cons_succ, bind_some, bind_none, getV_nil, getV_0s, getV_0n, getV_s, if_true, if_false, Bool.false_eq_true, ite_self, true_and, and_true, blt_len, blt_abs, blt_max, blt_min, blt_sum, blt_all, blt_any, blt_repr, blt_isi, lst_ref, len_tup, len_str, len_ref, bty_int, bty_bool, bty_str, bty_strs, bty_tup, bty_tupl, bty_lst, bty_lstl, bin_add, bin_sub, bin_mul, bin_div, bin_mod, bin_pow, bin_adds, bin_addt, bin_mult, bin_addl, cmp_lt, cmp_le, cmp_gt, cmp_ge, cmp_eq, cmp_ne, cmp_eqs, cmp_nes, cmp_eqt, cmp_net, cmp_is, cmp_isn, tru_non, tru_bl', tru_int, tru_str, tru_tup, tru_ref, neg_int, ix_tup', ix_str', ix_ref', sl_tup', sl_str', sl_ref', rev_tup', part_int, walk_tup, walk_ref, walk_str, rng_1, rng_2, set_ref, aug_add, aug_sub, rg_1, rg_2, atI_0, atI_1, atI_2, ixN3_0, ixN3_1, ixN3_2, ex_lst, DS.put_same, lstAt_put, g0, g2', g2, g4, g6, g8]
  refine ⟨v, rfl, hv, fun h => ?_, fun h => eE_same (q1 h)⟩
  refine ⟨m, 0, 40, rfl, hm, fun h' => ?_, fun h' => eE_same (q2 h h')⟩
  obtain ⟨is, rfl, h1, h2, h3⟩ := isRow_ex h
  refine ⟨is, rfl, h1, by omega, ?_⟩
  cases m with
  | int k =>
    simp only [isIntD, Bool.and_eq_true, decide_eq_true_eq] at h'
    simp only [wpSs, DL.wpS, wpE, wpX, star_tup, star_ref, wpEs, wpEn, wpO, wpCh, wpB, wpBs, wpBo, wpI, wpT, wpTs, boolOf, startR, CTs.len, CEs.len, CEs.isNil, upto_ff, upto_tt, List.length_cons, List.length_nil, List.map_cons, List.map_nil, List.replicate, List.cons_append, List.nil_append, List.append_nil, List.set_cons_zero, List.set_cons_succ, bind_some, bind_none, getV_nil, getV_0s, getV_0n, getV_s, if_true, if_false, Bool.false_eq_true, ite_self, true_and, and_true, blt_len, blt_abs, blt_max, blt_min, blt_sum, blt_all, blt_any, blt_repr, blt_isi, lst_ref, len_tup, len_str, len_ref, bty_int, bty_bool, bty_str, bty_strs, bty_tup, bty_tupl, bty_lst, bty_lstl, bin_add, bin_sub, bin_mul, bin_div, bin_mod, bin_pow, bin_adds, bin_addt, bin_mult, bin_addl, cmp_lt, cmp_le, cmp_gt, cmp_ge, cmp_eq, cmp_ne, cmp_eqs, cmp_nes, cmp_eqt, cmp_net, cmp_is, cmp_isn, tru_non, tru_bl', tru_int, tru_str, tru_tup, tru_ref, neg_int, ix_tup', ix_str', ix_ref', sl_tup', sl_str', sl_ref', rev_tup', part_int, walk_tup, walk_ref, walk_str, rng_1, rng_2, set_ref, aug_add, aug_sub, rg_1, rg_2, atI_0, atI_1, atI_2, ixN3_0, ixN3_1, ixN3_2, ex_lst, DS.put_same, lstAt_put]
    refine ⟨by constructor <;> omega, ?_⟩
    refine forS_ind (fun i ρ S' => S' = S ∧ ρ = [some (intsD is), some (.int k), some ((M2.turns is).pow i).toD, some (M2.turns is).toD, none]) (fun i d ρ S' hd hp => ⟨trivial, fun K hK => ?_⟩) (fun ρ S' hp => ⟨trivial, ?_⟩) ⟨rfl, rfl⟩
    · obtain ⟨rfl, rfl⟩ := hp
      obtain ⟨hi, rfl⟩ := rngD_get hd
      simp (config := {decide := true}) only [wpSs, DL.wpS, wpE, wpX, star_tup, star_ref, wpEs, wpEn, wpO, wpCh, wpB, wpBs, wpBo, wpI, wpT, wpTs, boolOf, startR, CTs.len, CEs.len, CEs.isNil, upto_ff, upto_tt, List.length_cons, List.length_nil, List.map_cons, List.map_nil, List.replicate, List.cons_append, List.nil_append, List.append_nil, List.set_cons_zero, List.set_cons_succ, bind_some, bind_none, getV_nil, getV_0s, getV_0n, getV_s, if_true, if_false, Bool.false_eq_true, ite_self, true_and, and_true, blt_len, blt_abs, blt_max, blt_min, blt_sum, blt_all, blt_any, blt_repr, blt_isi, lst_ref, len_tup, len_str, len_ref, bty_int, bty_bool, bty_str, bty_strs, bty_tup, bty_tupl, bty_lst, bty_lstl, bin_add, bin_sub, bin_mul, bin_div, bin_mod, bin_pow, bin_adds, bin_addt, bin_mult, bin_addl, cmp_lt, cmp_le, cmp_gt, cmp_ge, cmp_eq, cmp_ne, cmp_eqs, cmp_nes, cmp_eqt, cmp_net, cmp_is, cmp_isn, tru_non, tru_bl', tru_int, tru_str, tru_tup, tru_ref, neg_int, ix_tup', ix_str', ix_ref', sl_tup', sl_str', sl_ref', rev_tup', part_int, walk_tup, walk_ref, walk_str, rng_1, rng_2, set_ref, aug_add, aug_sub, rg_1, rg_2, atI_0, atI_1, atI_2, ixN3_0, ixN3_1, ixN3_2, ex_lst, DS.put_same, lstAt_put]
      have b := M2.bd_turns (n := 20) (by decide) h1
      refine ⟨(M2.turns is).pow i, M2.turns is, _, _, rfl, b.pow i, b, ?_, hK _ _ ⟨_, _, .cons (.cons (.cons (.cons (.cons .nil (.inr rfl)) (.inl rfl)) (.inl rfl)) (.inl rfl)) (.inl rfl), LeS.refl _, rfl, rfl⟩⟩
      have e1 : ((20 + 1) * is.length + 1 + 1) * i ≤ 842 * 40 := Nat.mul_le_mul (by omega) (by omega)
      omega
    · obtain ⟨rfl, rfl⟩ := hp
      rw [rngD_len]
      simp (config := {decide := true}) only [wpSs, DL.wpS, wpE, wpX, star_tup, star_ref, wpEs, wpEn, wpO, wpCh, wpB, wpBs, wpBo, wpI, wpT, wpTs, boolOf, startR, CTs.len, CEs.len, CEs.isNil, upto_ff, upto_tt, List.length_cons, List.length_nil, List.map_cons, List.map_nil, List.replicate, List.cons_append, List.nil_append, List.append_nil, List.set_cons_zero, List.set_cons_succ, bind_some, bind_none, getV_nil, getV_0s, getV_0n, getV_s, if_true, if_false, Bool.false_eq_true, ite_self, true_and, and_true, blt_len, blt_abs, blt_max, blt_min, blt_sum, blt_all, blt_any, blt_repr, blt_isi, lst_ref, len_tup, len_str, len_ref, bty_int, bty_bool, bty_str, bty_strs, bty_tup, bty_tupl, bty_lst, bty_lstl, bin_add, bin_sub, bin_mul, bin_div, bin_mod, bin_pow, bin_adds, bin_addt, bin_mult, bin_addl, cmp_lt, cmp_le, cmp_gt, cmp_ge, cmp_eq, cmp_ne, cmp_eqs, cmp_nes, cmp_eqt, cmp_net, cmp_is, cmp_isn, tru_non, tru_bl', tru_int, tru_str, tru_tup, tru_ref, neg_int, ix_tup', ix_str', ix_ref', sl_tup', sl_str', sl_ref', rev_tup', part_int, walk_tup, walk_ref, walk_str, rng_1, rng_2, set_ref, aug_add, aug_sub, rg_1, rg_2, atI_0, atI_1, atI_2, ixN3_0, ixN3_1, ixN3_2, ex_lst, DS.put_same, lstAt_put]
      exact fgtQ_same (q3 is k rfl rfl h (by simp [isIntD, h'.1, h'.2]))
  | _ => cases h'
end LK

namespace LK
open PySem DL
def cTake : FC := fun ds S Q _ => ∃ a u n, ds = [.ref a, .int u] ∧ 0 < u ∧ bd 62 u ∧ Pot S a (n + 1) ∧ ∀ r S', Fr a S S' → Pot S' a n → 0 ≤ r → r < u → Q (.int r) S'
theorem kTake (G : GS) (Γ : Ga) : Keeps G Γ fTake cTake := by
  rintro ds S Q E ⟨a, u, n, rfl, hu, bu, ⟨o, m, l, hp, k⟩, q⟩
  replace hp : S.mem a = some (.lst [.int o, .int m, .int l]) := hp
  have la : lstAt S a = some [.int o, .int m, .int l] := lstAt_lst hp
  simp (config := {decide := true}) only [fTake, wpSs, DL.wpS, wpE, wpX, star_tup, star_ref, wpEs, wpEn, wpO, wpCh, wpB, wpBs, wpBo, wpI, wpT, wpTs, boolOf, startR, CTs.len, CEs.len, CEs.isNil, upto_ff, upto_tt, List.length_cons, List.length_nil, List.map_cons, List.map_nil, List.replicate, List.cons_append, List.nil_append, List.append_nil, List.set_cons_zero, List.set_cons_succ, bind_some, bind_none, getV_nil, getV_0s, getV_0n, getV_s, if_true, if_false, Bool.false_eq_true, ite_self, true_and, and_true, blt_len, blt_abs, blt_max, blt_min, blt_sum, blt_all, blt_any, blt_repr, blt_isi, lst_ref, len_tup, len_str, len_ref, bty_int, bty_bool, bty_str, bty_strs, bty_tup, bty_tupl, bty_lst, bty_lstl, bin_add, bin_sub, bin_mul, bin_div, bin_mod, bin_pow, bin_adds, bin_addt, bin_mult, bin_addl, cmp_lt, cmp_le, cmp_gt, cmp_ge, cmp_eq, cmp_ne, cmp_eqs, cmp_nes, cmp_eqt, cmp_net, cmp_is, cmp_isn, tru_non, tru_bl', tru_int, tru_str, tru_tup, tru_ref, neg_int, ix_tup', ix_str', ix_ref', sl_tup', sl_str', sl_ref', rev_tup', part_int, walk_tup, walk_ref, walk_str, rng_1, rng_2, set_ref, aug_add, aug_sub, rg_1, rg_2, atI_0, atI_1, atI_2, ixN3_0, ixN3_1, ixN3_2, ex_lst, DS.put_same, lstAt_put, la, hp]
  have r0 := fmod_rng (x := o) hu
  by_cases h0 : 0 < o
  · simp only [h0, decide_true, if_true]
    refine ⟨by omega, divOk_bd (by omega) bu (by decide), fgtQ_to ?_⟩
    have hd : o.fdiv u ≤ o ∧ 0 ≤ o.fdiv u := by
      rw [Int.fdiv_eq_ediv_of_nonneg _ (by omega)]
      exact ⟨Int.ediv_le_self _ (by omega), Int.ediv_nonneg (by omega) (by omega)⟩
    have fr : Fr a S (S.put a (potM (o.fdiv u) m l)) := Fr.put
    refine q _ _ fr ⟨_, _, _, DS.put_same, hd.2, ?_, k.m0, k.m1, k.l0, by have := k.l1; omega⟩ r0.1 r0.2
    have := k.o1
    unfold bd at this ⊢
    omega
  · simp only [h0, decide_false, if_false, Bool.false_eq_true]
    intro p hq
    have hne : a ≠ p := fun z => by subst z; rw [DS.put_same] at hq; cases hq
    have hpS : S.mem p = none := by rw [DS.put_ne (Ne.symm hne)] at hq; exact hq
    have fr : Fr a S ((S.put a (.lst [.int o, .int m, .int (l + 1)])).put p (.lst [.int 2147483647, .int 2147483629, .int 2147483587, .int 2147483579, .int 2147483563])) := Fr.put.trans (Fr.new hq)
    have la2 : lstAt ((S.put a (.lst [.int o, .int m, .int (l + 1)])).put p (.lst [.int 2147483647, .int 2147483629, .int 2147483587, .int 2147483579, .int 2147483563])) a = some [.int o, .int m, .int (l + 1)] := by
      rw [lstAt_put_ne hne, lstAt_put]
    have lp2 : lstAt ((S.put a (.lst [.int o, .int m, .int (l + 1)])).put p (.lst [.int 2147483647, .int 2147483629, .int 2147483587, .int 2147483579, .int 2147483563])) p = some [.int 2147483647, .int 2147483629, .int 2147483587, .int 2147483579, .int 2147483563] := lstAt_put
    have pt : Pot ((S.put a (.lst [.int o, .int m, .int (l + 1)])).put p (.lst [.int 2147483647, .int 2147483629, .int 2147483587, .int 2147483579, .int 2147483563])) a n :=
      ⟨o, m, l + 1, by rw [DS.put_ne hne, DS.put_same]; rfl, k.o0, k.o1, k.m0, k.m1, by have := k.l0; omega, by have := k.l1; omega⟩
    generalize (S.put a (.lst [.int o, .int m, .int (l + 1)])).put p (.lst [.int 2147483647, .int 2147483629, .int 2147483587, .int 2147483579, .int 2147483563]) = S2 at fr la2 lp2 pt ⊢
    have hl : bd 41 (l + 1) := by
      have h0 := k.l0
      have h1 := k.l1
      exact bd_of_lt (by omega) (by omega)
    have r5 := fmod_rng (x := l + 1) (y := 5) (by decide)
    obtain ⟨d, e1, _, e2⟩ := atI_in (xs := [D.int 2147483647, .int 2147483629, .int 2147483587, .int 2147483579, .int 2147483563]) (i := (l + 1).fmod 5) r5.1 (by simpa using r5.2)
    obtain ⟨pr, rfl, hp1, hp2⟩ : ∃ pr : Int, d = .int pr ∧ 0 < pr ∧ bd 31 pr := by
      simp only [List.mem_cons, List.not_mem_nil, or_false] at e2
      rcases e2 with rfl | rfl | rfl | rfl | rfl <;> exact ⟨_, rfl, by decide, by decide⟩
    simp (config := {decide := true}) only [wpSs, DL.wpS, wpE, wpX, star_tup, star_ref, wpEs, wpEn, wpO, wpCh, wpB, wpBs, wpBo, wpI, wpT, wpTs, boolOf, startR, CTs.len, CEs.len, CEs.isNil, upto_ff, upto_tt, List.length_cons, List.length_nil, List.map_cons, List.map_nil, List.replicate, List.cons_append, List.nil_append, List.append_nil, List.set_cons_zero, List.set_cons_succ, bind_some, bind_none, getV_nil, getV_0s, getV_0n, getV_s, if_true, if_false, Bool.false_eq_true, ite_self, true_and, and_true, blt_len, blt_abs, blt_max, blt_min, blt_sum, blt_all, blt_any, blt_repr, blt_isi, lst_ref, len_tup, len_str, len_ref, bty_int, bty_bool, bty_str, bty_strs, bty_tup, bty_tupl, bty_lst, bty_lstl, bin_add, bin_sub, bin_mul, bin_div, bin_mod, bin_pow, bin_adds, bin_addt, bin_mult, bin_addl, cmp_lt, cmp_le, cmp_gt, cmp_ge, cmp_eq, cmp_ne, cmp_eqs, cmp_nes, cmp_eqt, cmp_net, cmp_is, cmp_isn, tru_non, tru_bl', tru_int, tru_str, tru_tup, tru_ref, neg_int, ix_tup', ix_str', ix_ref', sl_tup', sl_str', sl_ref', rev_tup', part_int, walk_tup, walk_ref, walk_str, rng_1, rng_2, set_ref, aug_add, aug_sub, rg_1, rg_2, atI_0, atI_1, atI_2, ixN3_0, ixN3_1, ixN3_2, ex_lst, DS.put_same, lstAt_put, la2, lp2, e1]
    have hb1 : bd 130 (m + 95257 * (l + 1) * (l + 1) + 3163) :=
      (((k.m1.mono (m := 100) (by decide)).add ((((show bd 17 95257 by decide).mul hl).mul hl).mono (m := 100) (by decide))).add ((show bd 17 3163 by decide).mono (m := 101) (by decide))).mono (by decide)
    generalize m + 95257 * (l + 1) * (l + 1) + 3163 = x1 at hb1 ⊢
    have rb := fmod_rng (x := x1 ^ (3 : Int).toNat) hp1
    have hb2 : bd 31 ((x1 ^ (3 : Int).toNat).fmod pr) := by
      have := hp2
      unfold bd at this ⊢
      omega
    generalize (x1 ^ (3 : Int).toNat).fmod pr = x2 at rb hb2 ⊢
    have r6 := fmod_rng (x := x2) (y := 13441) (by decide)
    have hb3 : bd 20 (x2.fmod 13441) := bd_of_lt r6.1 (by omega)
    have hb4 : bd 60 (x2.fmod 13441 + 419 * (l + 1)) := ((hb3.mono (m := 55) (by decide)).add (((show bd 9 419 by decide).mul hl).mono (m := 55) (by decide))).mono (by decide)
    generalize x2 * (x2.fmod 13441 + 419 * (l + 1)) = x3
    refine ⟨mulOk_bd (n := 17) (m := 41) (by decide) hl (by decide), mulOk_bd (n := 58) (m := 41) ((show bd 17 95257 by decide).mul hl) hl (by decide), powOk_bd (k := 3) hb1 (by decide), by omega, mulOk_bd (n := 9) (m := 41) (by decide) hl (by decide), mulOk_bd hb2 hb4 (by decide), divOk_bd (n := 9) (by decide) (by decide) (by decide), by omega, fgtQ_to ?_⟩
    have r7 := fmod_rng (x := (x3.fmod 2305843009213693907).fdiv 229) hu
    rw [fr.back]
    exact q _ _ fr pt r7.1 r7.2
end LK

namespace LK
open PySem DL
theorem tupInts_ints (is : List Int) : tupInts (is.map .int) = some is := by
  have := tupInts_map (f := D.int) (g := id) (l := is) (fun _ _ => rfl)
  simpa using this
def cPot : FC := fun ds S Q _ => ∃ a, ∃ is : List Int, ∃ pl, ds = [.ref a, .int pl] ∧ lstAt S a = some (is.map .int) ∧ is.length ≤ 100 ∧ 0 ≤ pl ∧ pl ≤ 10 ∧ ∀ p S', S.mem p = none → (∀ x o, S.mem x = some o → S'.mem x = some o) → S'.lam = S.lam → Pot S' p 1000000 → Q (.ref p) S'
theorem kPot (G : GS) (Γ : Ga) : Keeps G Γ fPot cPot := by
  rintro ds S Q E ⟨a, is, pl, rfl, la, hl, h0, h1, q⟩
  simp (config := {decide := true}) only [fPot, wpSs, DL.wpS, wpE, wpX, star_tup, star_ref, wpEs, wpEn, wpO, wpCh, wpB, wpBs, wpBo, wpI, wpT, wpTs, boolOf, startR, CTs.len, CEs.len, CEs.isNil, upto_ff, upto_tt, List.length_cons, List.length_nil, List.map_cons, List.map_nil, List.replicate, List.cons_append, List.nil_append, List.append_nil, List.set_cons_zero, List.set_cons_succ, bind_some, bind_none, getV_nil, getV_0s, getV_0n, getV_s, if_true, if_false, Bool.false_eq_true, ite_self, true_and, and_true, blt_len, blt_abs, blt_max, blt_min, blt_sum, blt_all, blt_any, blt_repr, blt_isi, lst_ref, len_tup, len_str, len_ref, bty_int, bty_bool, bty_str, bty_strs, bty_tup, bty_tupl, bty_lst, bty_lstl, bin_add, bin_sub, bin_mul, bin_div, bin_mod, bin_pow, bin_adds, bin_addt, bin_mult, bin_addl, cmp_lt, cmp_le, cmp_gt, cmp_ge, cmp_eq, cmp_ne, cmp_eqs, cmp_nes, cmp_eqt, cmp_net, cmp_is, cmp_isn, tru_non, tru_bl', tru_int, tru_str, tru_tup, tru_ref, neg_int, ix_tup', ix_str', ix_ref', sl_tup', sl_str', sl_ref', rev_tup', part_int, walk_tup, walk_ref, walk_str, rng_1, rng_2, set_ref, aug_add, aug_sub, rg_1, rg_2, atI_0, atI_1, atI_2, ixN3_0, ixN3_1, ixN3_2, ex_lst, DS.put_same, lstAt_put, la]
  have hN : (0 : Int) < (10 ^ Int.toNat 60) ^ Int.toNat 5 := by decide
  have hN2 : ((10 : Int) ^ Int.toNat 60) ^ Int.toNat 5 ≤ 2 ^ 999 := by decide
  have hp1 : powOk 10 60 := powOk_bd (n := 4) (k := 60) (by decide) (by decide)
  have hp2 : powOk (10 ^ Int.toNat 60) 5 := powOk_bd (n := 240) (k := 5) (by decide) (by decide)
  have hp3 : powOk 10 18 := powOk_bd (n := 4) (k := 18) (by decide) (by decide)
  have bp : bd 4 pl := bd_of_lt h0 (by omega)
  have hm1 : mulOk 10853 pl := mulOk_bd (n := 14) (by decide) bp (by decide)
  have hm2 : mulOk (10853 * pl) pl := mulOk_bd (n := 18) ((show bd 14 10853 by decide).mul bp) bp (by decide)
  have hm3 : mulOk 4639 pl := mulOk_bd (n := 14) (by decide) bp (by decide)
  generalize ((10 : Int) ^ Int.toNat 60) ^ Int.toNat 5 = N at hN hN2 ⊢
  generalize (10 : Int) ^ Int.toNat 18 = N2
  have r1 : ∀ c : Int, 0 ≤ (c.natAbs : Int).fmod N ∧ bd 999 ((c.natAbs : Int).fmod N) := fun c =>
    have r := fmod_rng (x := (c.natAbs : Int)) hN
    ⟨r.1, bd_of_lt r.1 (by omega)⟩
  have r2 : ∀ c : Int, bd 61 (c.fmod 2305843009213693951) := fun c =>
    have r := fmod_rng (x := c) (y := 2305843009213693951) (by decide)
    bd_of_lt r.1 (by omega)
  have b2 : ∀ k : Bool, bd 1 (if k = true then 1 else 0) := fun k => by cases k <;> decide
  have m1 : ∀ (c : Int) (k : Bool), mulOk ((c.natAbs : Int).fmod N) (if k = true then 1 else 0) := fun c k => mulOk_bd (r1 c).2 (b2 k) (by decide)
  have m2 : ∀ c : Int, mulOk (c.fmod 2305843009213693951) 72161 := fun c => mulOk_bd (r2 c) (show bd 17 72161 by decide) (by decide)
  have fin : ∀ (c : Int) (k : Bool) (y : Int) (p : Addr) (S1 : DS), (∀ x o, S.mem x = some o → S1.mem x = some o) → S1.lam = S.lam → S1.mem p = none → fgtQ S Q (.ref p) (S1.put p (.lst [.int ((c.natAbs : Int).fmod N * (if k = true then 1 else 0)), .int (y.fmod 2305843009213693921), .int 0])) := by
    intro c k y p S1 e1 e2 hp
    have hpS : S.mem p = none := by
      cases e : S.mem p with
      | none => rfl
      | some o => rw [e1 p o e] at hp; cases hp
    have r3 := fmod_rng (x := y) (y := 2305843009213693921) (by decide)
    refine fgtQ_to ?_
    refine q p _ hpS (fun x o e => ?_) rfl ⟨_, _, _, DS.put_same, ?_, ?_, r3.1, bd_of_lt r3.1 (by omega), by decide, by decide⟩
    · have : x ≠ p := fun z => by subst z; rw [hpS] at e; cases e
      show (S1.put p _).mem x = some o
      rw [DS.put_ne this]; exact e1 x o e
    · cases k
      · simp
      · simpa using (r1 c).1
    · exact ((r1 c).2.mul (b2 k)).mono (by decide)
  split
  · rename_i hlt
    have hlt := of_decide_eq_true hlt
    obtain ⟨d, e1, _, e2⟩ := atI_in (xs := is.map D.int) h0 hlt
    obtain ⟨c, _, rfl⟩ := List.mem_map.mp e2
    simp (config := {decide := true}) only [wpSs, DL.wpS, wpE, wpX, star_tup, star_ref, wpEs, wpEn, wpO, wpCh, wpB, wpBs, wpBo, wpI, wpT, wpTs, boolOf, startR, CTs.len, CEs.len, CEs.isNil, upto_ff, upto_tt, List.length_cons, List.length_nil, List.map_cons, List.map_nil, List.replicate, List.cons_append, List.nil_append, List.append_nil, List.set_cons_zero, List.set_cons_succ, bind_some, bind_none, getV_nil, getV_0s, getV_0n, getV_s, if_true, if_false, Bool.false_eq_true, ite_self, true_and, and_true, blt_len, blt_abs, blt_max, blt_min, blt_sum, blt_all, blt_any, blt_repr, blt_isi, lst_ref, len_tup, len_str, len_ref, bty_int, bty_bool, bty_str, bty_strs, bty_tup, bty_tupl, bty_lst, bty_lstl, bin_add, bin_sub, bin_mul, bin_div, bin_mod, bin_pow, bin_adds, bin_addt, bin_mult, bin_addl, cmp_lt, cmp_le, cmp_gt, cmp_ge, cmp_eq, cmp_ne, cmp_eqs, cmp_nes, cmp_eqt, cmp_net, cmp_is, cmp_isn, tru_non, tru_bl', tru_int, tru_str, tru_tup, tru_ref, neg_int, ix_tup', ix_str', ix_ref', sl_tup', sl_str', sl_ref', rev_tup', part_int, walk_tup, walk_ref, walk_str, rng_1, rng_2, set_ref, aug_add, aug_sub, rg_1, rg_2, atI_0, atI_1, atI_2, ixN3_0, ixN3_1, ixN3_2, ex_lst, DS.put_same, lstAt_put, e1]
    exact ⟨hp1, hp2, by omega, hp3, m1 c _, m2 c, hm1, hm2, fun p hp => fin c _ _ p S (fun _ _ e => e) rfl hp⟩
  · intro p hp
    rw [cutD_map, tupInts_ints, bind_some]
    refine ⟨hm3, hp1, hp2, hp3, m1 _ _, m2 _, hm1, hm2, fun p1 hp1 => fin _ _ _ p1 _ (fun x o e => ?_) rfl hp1⟩
    have : x ≠ p := fun z => by subst z; rw [hp] at e; cases e
    rw [DS.put_ne this]; exact e
end LK

namespace LK
open PySem DL
def cOf : FC := fun ds S Q _ => ∃ a b xs n, ds = [.ref a, .ref b] ∧ a ≠ b ∧ Pot S a (n + 1) ∧ lstAt S b = some xs ∧ xs ≠ [] ∧ xs.length ≤ 1000000 ∧ ∀ d ∈ xs, ∀ S', Fr a S S' → Pot S' a n → Q d S'
theorem Fr.lst {a b : Addr} {S S' : DS} {xs : List D} (h : Fr a S S') (n : b ≠ a) (e : lstAt S b = some xs) : lstAt S' b = some xs := by
  unfold lstAt at *
  cases q : S.mem b with
  | none => rw [q] at e; cases e
  | some o => rw [q] at e; rw [h.mem b o n q]; exact e
theorem kOf (G : GS) (Γ : Ga) {i14 : Nat} (g14 : Γ.fn i14 = cTake) : Keeps G Γ (fOf i14) cOf := by
  rintro ds S Q E ⟨a, b, xs, n, rfl, hab, hp, hx, hne, hl, q⟩
  simp (config := {decide := true}) only [fOf, wpSs, DL.wpS, wpE, wpX, star_tup, star_ref, wpEs, wpEn, wpO, wpCh, wpB, wpBs, wpBo, wpI, wpT, wpTs, boolOf, startR, CTs.len, CEs.len, CEs.isNil, upto_ff, upto_tt, List.length_cons, List.length_nil, List.map_cons, List.map_nil, List.replicate, List.cons_append, List.nil_append, List.append_nil, List.set_cons_zero, List.set_cons_succ, bind_some, bind_none, getV_nil, getV_0s, getV_0n, getV_s, if_true, if_false, Bool.false_eq_true, ite_self, true_and, and_true, blt_len, blt_abs, blt_max, blt_min, blt_sum, blt_all, blt_any, blt_repr, blt_isi, lst_ref, len_tup, len_str, len_ref, bty_int, bty_bool, bty_str, bty_strs, bty_tup, bty_tupl, bty_lst, bty_lstl, bin_add, bin_sub, bin_mul, bin_div, bin_mod, bin_pow, bin_adds, bin_addt, bin_mult, bin_addl, cmp_lt, cmp_le, cmp_gt, cmp_ge, cmp_eq, cmp_ne, cmp_eqs, cmp_nes, cmp_eqt, cmp_net, cmp_is, cmp_isn, tru_non, tru_bl', tru_int, tru_str, tru_tup, tru_ref, neg_int, ix_tup', ix_str', ix_ref', sl_tup', sl_str', sl_ref', rev_tup', part_int, walk_tup, walk_ref, walk_str, rng_1, rng_2, set_ref, aug_add, aug_sub, rg_1, rg_2, atI_0, atI_1, atI_2, ixN3_0, ixN3_1, ixN3_2, ex_lst, DS.put_same, lstAt_put, g14, hx]
  have hpos : 0 < xs.length := List.length_pos_iff.mpr hne
  refine ⟨a, xs.length, n, rfl, by omega, bd_of_lt (by omega) (by omega), hp, fun r S' fr pt r0 r1 => ?_⟩
  simp (config := {decide := true}) only [wpSs, DL.wpS, wpE, wpX, star_tup, star_ref, wpEs, wpEn, wpO, wpCh, wpB, wpBs, wpBo, wpI, wpT, wpTs, boolOf, startR, CTs.len, CEs.len, CEs.isNil, upto_ff, upto_tt, List.length_cons, List.length_nil, List.map_cons, List.map_nil, List.replicate, List.cons_append, List.nil_append, List.append_nil, List.set_cons_zero, List.set_cons_succ, bind_some, bind_none, getV_nil, getV_0s, getV_0n, getV_s, if_true, if_false, Bool.false_eq_true, ite_self, true_and, and_true, blt_len, blt_abs, blt_max, blt_min, blt_sum, blt_all, blt_any, blt_repr, blt_isi, lst_ref, len_tup, len_str, len_ref, bty_int, bty_bool, bty_str, bty_strs, bty_tup, bty_tupl, bty_lst, bty_lstl, bin_add, bin_sub, bin_mul, bin_div, bin_mod, bin_pow, bin_adds, bin_addt, bin_mult, bin_addl, cmp_lt, cmp_le, cmp_gt, cmp_ge, cmp_eq, cmp_ne, cmp_eqs, cmp_nes, cmp_eqt, cmp_net, cmp_is, cmp_isn, tru_non, tru_bl', tru_int, tru_str, tru_tup, tru_ref, neg_int, ix_tup', ix_str', ix_ref', sl_tup', sl_str', sl_ref', rev_tup', part_int, walk_tup, walk_ref, walk_str, rng_1, rng_2, set_ref, aug_add, aug_sub, rg_1, rg_2, atI_0, atI_1, atI_2, ixN3_0, ixN3_1, ixN3_2, ex_lst, DS.put_same, lstAt_put, Fr.lst fr (Ne.symm hab) hx]
  obtain ⟨d, e1, _, e2⟩ := atI_in (xs := xs) r0 r1
  rw [e1, bind_some]
  refine fgtQ_to ?_
  rw [fr.back]
  exact q d e2 S' fr pt
def cCells : FC := fun ds S Q _ => ∃ a, ∃ xs : List D, ds = [.ref a, .int 3] ∧ lstAt S a = some xs ∧ xs.length ≤ 100 ∧ ∀ p, S.mem p = none → Q (.ref p) (S.put p (.lst (rngD 0 1 (max 1 (min 3 (xs.length : Int))).toNat)))
theorem kCells (G : GS) (Γ : Ga) : Keeps G Γ fCells cCells := by
  rintro ds S Q E ⟨a, xs, rfl, hx, hl, q⟩
  simp (config := {decide := true}) only [fCells, wpSs, DL.wpS, wpE, wpX, star_tup, star_ref, wpEs, wpEn, wpO, wpCh, wpB, wpBs, wpBo, wpI, wpT, wpTs, boolOf, startR, CTs.len, CEs.len, CEs.isNil, upto_ff, upto_tt, List.length_cons, List.length_nil, List.map_cons, List.map_nil, List.replicate, List.cons_append, List.nil_append, List.append_nil, List.set_cons_zero, List.set_cons_succ, bind_some, bind_none, getV_nil, getV_0s, getV_0n, getV_s, if_true, if_false, Bool.false_eq_true, ite_self, true_and, and_true, blt_len, blt_abs, blt_max, blt_min, blt_sum, blt_all, blt_any, blt_repr, blt_isi, lst_ref, len_tup, len_str, len_ref, bty_int, bty_bool, bty_str, bty_strs, bty_tup, bty_tupl, bty_lst, bty_lstl, bin_add, bin_sub, bin_mul, bin_div, bin_mod, bin_pow, bin_adds, bin_addt, bin_mult, bin_addl, cmp_lt, cmp_le, cmp_gt, cmp_ge, cmp_eq, cmp_ne, cmp_eqs, cmp_nes, cmp_eqt, cmp_net, cmp_is, cmp_isn, tru_non, tru_bl', tru_int, tru_str, tru_tup, tru_ref, neg_int, ix_tup', ix_str', ix_ref', sl_tup', sl_str', sl_ref', rev_tup', part_int, walk_tup, walk_ref, walk_str, rng_1, rng_2, set_ref, aug_add, aug_sub, rg_1, rg_2, atI_0, atI_1, atI_2, ixN3_0, ixN3_1, ixN3_2, ex_lst, DS.put_same, lstAt_put, hx, lrgS]
  refine ⟨rfl, by unfold L2.RgOk; omega, fun p hp => fgtQ_to ?_⟩
  rw [Int.sub_zero]
  exact q p hp
def cHeard (G : GS) (Γ : Ga) : FC := fun ds S Q _ => ∃ f j sn n CL, ds = [.ref f] ∧ S.lam f = some (j, sn) ∧ Γ.lc j = some (n, CL) ∧ CL sn S (fun d S' => fgtQ S Q (.tup [.non, d]) S') (fun n d S' => G.sub n "FenceError" = true ∧ fgtQ S Q (.tup [.exc n d, .non]) (S'.back S))
theorem kHeard (G : GS) (Γ : Ga) : Keeps G Γ fHeard (cHeard G Γ) := by
  rintro ds S Q E ⟨f, j, sn, n, CL, rfl, hf, hj, hc⟩
  simp (config := {decide := true}) only [fHeard, wpSs, DL.wpS, wpE, wpX, star_tup, star_ref, wpEs, wpEn, wpO, wpCh, wpB, wpBs, wpBo, wpI, wpT, wpTs, boolOf, startR, CTs.len, CEs.len, CEs.isNil, upto_ff, upto_tt, List.length_cons, List.length_nil, List.map_cons, List.map_nil, List.replicate, List.cons_append, List.nil_append, List.append_nil, List.set_cons_zero, List.set_cons_succ, bind_some, bind_none, getV_nil, getV_0s, getV_0n, getV_s, if_true, if_false, Bool.false_eq_true, ite_self, true_and, and_true, blt_len, blt_abs, blt_max, blt_min, blt_sum, blt_all, blt_any, blt_repr, blt_isi, lst_ref, len_tup, len_str, len_ref, bty_int, bty_bool, bty_str, bty_strs, bty_tup, bty_tupl, bty_lst, bty_lstl, bin_add, bin_sub, bin_mul, bin_div, bin_mod, bin_pow, bin_adds, bin_addt, bin_mult, bin_addl, cmp_lt, cmp_le, cmp_gt, cmp_ge, cmp_eq, cmp_ne, cmp_eqs, cmp_nes, cmp_eqt, cmp_net, cmp_is, cmp_isn, tru_non, tru_bl', tru_int, tru_str, tru_tup, tru_ref, neg_int, ix_tup', ix_str', ix_ref', sl_tup', sl_str', sl_ref', rev_tup', part_int, walk_tup, walk_ref, walk_str, rng_1, rng_2, set_ref, aug_add, aug_sub, rg_1, rg_2, atI_0, atI_1, atI_2, ixN3_0, ixN3_1, ixN3_2, ex_lst, DS.put_same, lstAt_put]
  refine ⟨f, rfl, ?_⟩
  rw [hf, bind_some]
  exact ⟨n, CL, hj, hc⟩
def cLIsInt : FC := cIsInt
theorem kLIsInt (G : GS) (Γ : Ga) : Keeps G Γ fLIsInt cLIsInt := kIsInt G Γ
end LK

namespace LK
open PySem DL
def _root_.DL.DS.hide (S : DS) (a : Addr) : DS := { S with mem := fun x => if x = a then none else S.mem x }
theorem Fr.hide {a : Addr} {S S' : DS} (h : Fr a S S') : LeM (S.hide a) (S'.hide a) := fun x o e => by
  have e : (if x = a then none else S.mem x) = some o := e
  by_cases z : x = a
  · rw [if_pos z] at e; cases e
  · rw [if_neg z] at e
    show (if x = a then none else S'.mem x) = some o
    rw [if_neg z]; exact h.mem x o z e
/-- may be shown: plain, or a small dict -/
def Vd (S : DS) (d : D) : Prop := Vp S d 100000 20 ∨ (∃ a kvs ts, d = .ref a ∧ S.mem a = some (.dk kvs) ∧ dictTs kvs = some ts ∧ (∀ p ∈ ts, entOk p) ∧ (dictText (ts.map entT)).length ≤ sizeLine)
theorem Vd.mono {S S' : DS} (h : LeM S S') {d : D} (v : Vd S d) : Vd S' d := by
  rcases v with v | ⟨a, kvs, ts, e, m, r⟩
  · exact .inl (v.mono h (Nat.le_refl _) (Nat.le_refl _))
  · exact .inr ⟨a, kvs, ts, e, h a _ m, r⟩
theorem mergeD_one {kv : L2.Key × D} : mergeD [] [kv] = [kv] := rfl
theorem put_none {S : DS} {p q : Addr} {m : MO} : ((S.put p m).mem q = none) = (q ≠ p ∧ S.mem q = none) := propext (by
  by_cases h : q = p
  · subst h; rw [DS.put_same]; simp
  · rw [DS.put_ne h]; simp [h])
theorem put_mem {S : DS} {p q : Addr} {m : MO} : (S.put p m).mem q = if q = p then some m else S.mem q := rfl
def cOdd : FC := fun ds S Q _ => ∃ a n, ds = [.ref a] ∧ Pot S a (n + 1) ∧ ∀ d S', Fr a S S' → Pot S' a n → Vd (S'.hide a) d → Q d S'
theorem kOdd (G : GS) (Γ : Ga) {i15 : Nat} (g15 : Γ.fn i15 = cOf) : Keeps G Γ (fOdd i15) cOdd := by
  rintro ds S Q E ⟨a, n, rfl, hp, q⟩
  simp (config := {decide := true}) only [fOdd, wpSs, DL.wpS, wpE, wpX, star_tup, star_ref, wpEs, wpEn, wpO, wpCh, wpB, wpBs, wpBo, wpI, wpT, wpTs, boolOf, startR, CTs.len, CEs.len, CEs.isNil, upto_ff, upto_tt, List.length_cons, List.length_nil, List.map_cons, List.map_nil, List.replicate, List.cons_append, List.nil_append, List.append_nil, List.set_cons_zero, List.set_cons_succ, bind_some, bind_none, getV_nil, getV_0s, getV_0n, getV_s, if_true, if_false, Bool.false_eq_true, ite_self, true_and, and_true, blt_len, blt_abs, blt_max, blt_min, blt_sum, blt_all, blt_any, blt_repr, blt_isi, lst_ref, len_tup, len_str, len_ref, bty_int, bty_bool, bty_str, bty_strs, bty_tup, bty_tupl, bty_lst, bty_lstl, bin_add, bin_sub, bin_mul, bin_div, bin_mod, bin_pow, bin_adds, bin_addt, bin_mult, bin_addl, cmp_lt, cmp_le, cmp_gt, cmp_ge, cmp_eq, cmp_ne, cmp_eqs, cmp_nes, cmp_eqt, cmp_net, cmp_is, cmp_isn, tru_non, tru_bl', tru_int, tru_str, tru_tup, tru_ref, neg_int, ix_tup', ix_str', ix_ref', sl_tup', sl_str', sl_ref', rev_tup', part_int, walk_tup, walk_ref, walk_str, rng_1, rng_2, set_ref, aug_add, aug_sub, rg_1, rg_2, atI_0, atI_1, atI_2, ixN3_0, ixN3_1, ixN3_2, ex_lst, DS.put_same, lstAt_put, g15, dispS, kvOf, Option.map_some]
  refine ⟨powOk_bd (n := 4) (k := 20) (by decide) (by decide), fun p1 h1 p2 h2 p3 h3 p4 h4 p5 h5 p6 h6 => ?_⟩
  have e20 : (10 : Int) ^ Int.toNat 20 = 100000000000000000000 := by decide
  rw [e20]
  rw [mergeD_one] at h6 ⊢
  rw [e20] at h5 h6
  simp only [put_none] at h2 h3 h4 h5 h6
  obtain ⟨n21, h2⟩ := h2
  obtain ⟨n32, n31, h3⟩ := h3
  obtain ⟨n43, n42, n41, h4⟩ := h4
  obtain ⟨n54, n53, n52, n51, h5⟩ := h5
  obtain ⟨n65, n64, n63, n62, n61, h6⟩ := h6
  have na : S.mem a ≠ none := hp.ne
  have ha : ∀ p, S.mem p = none → a ≠ p := fun p h e => na (e ▸ h)
  generalize hA : [D.non, D.bl true, D.bl false, D.int 0, D.int 1, D.int (-1), D.int 33, D.int 100000000000000000000, D.str (Str.ofString ""), D.str (Str.ofString "a"), D.str (Str.ofString "cut"), D.str (Str.ofString "turns"), D.tup [], D.ref p1, D.ref p2, D.tup [D.int 0], D.tup [D.tup []], D.ref p3, D.tup [D.int 1, D.int 0]] = A
  generalize hB : [D.tup [D.int 0, D.int 1], D.tup [D.non], D.ref p5, D.tup [D.tup [D.int 1], D.tup [D.int 2]], D.tup [D.int 2, D.int 1], D.tup [D.int 1, D.int 1, D.int 1], D.tup [D.tup [D.bl true]], D.tup [D.str (Str.ofString "cut"), D.tup []], D.tup [D.int 2, D.int 1, D.int 0]] = B
  have lA : A.length = 19 := by rw [← hA]; rfl
  have lB : B.length = 9 := by rw [← hB]; rfl
  refine ⟨A, B, ?_, rfl, by rw [lA, lB, sizeLine_eq]; decide, fun p7 h7 => ?_⟩
  · rw [DS.put_ne (Ne.symm n64), DS.put_ne (Ne.symm n54), DS.put_same]
  simp only [put_none] at h7
  obtain ⟨n76, n75, n74, n73, n72, n71, h7⟩ := h7
  generalize hT : ((((((S.put p1 (.lst [])).put p2 (.dk [])).put p3 (.lst [D.int 1])).put p4 (.lst A)).put p5 (.dk [(Sum.inr (Str.ofString "a"), D.int 1)])).put p6 (.lst B)).put p7 (.lst (A ++ B)) = T
  have T1 : T.mem p1 = some (.lst []) := by
    rw [← hT, DS.put_ne (Ne.symm n71), DS.put_ne (Ne.symm n61), DS.put_ne (Ne.symm n51), DS.put_ne (Ne.symm n41), DS.put_ne (Ne.symm n31), DS.put_ne (Ne.symm n21), DS.put_same]
  have T2 : T.mem p2 = some (.dk []) := by
    rw [← hT, DS.put_ne (Ne.symm n72), DS.put_ne (Ne.symm n62), DS.put_ne (Ne.symm n52), DS.put_ne (Ne.symm n42), DS.put_ne (Ne.symm n32), DS.put_same]
  have T3 : T.mem p3 = some (.lst [D.int 1]) := by
    rw [← hT, DS.put_ne (Ne.symm n73), DS.put_ne (Ne.symm n63), DS.put_ne (Ne.symm n53), DS.put_ne (Ne.symm n43), DS.put_same]
  have T5 : T.mem p5 = some (.dk [(Sum.inr (Str.ofString "a"), D.int 1)]) := by
    rw [← hT, DS.put_ne (Ne.symm n75), DS.put_ne (Ne.symm n65), DS.put_same]
  have T7 : lstAt T p7 = some (A ++ B) := by rw [← hT]; exact lstAt_put
  have fr : Fr a S T := by
    rw [← hT]
    refine Fr.trans (Fr.trans (Fr.trans (Fr.trans (Fr.trans (Fr.trans (Fr.new h1) (Fr.new ?_)) (Fr.new ?_)) (Fr.new ?_)) (Fr.new ?_)) (Fr.new ?_)) (Fr.new ?_) <;> simp only [put_none] <;> simp only [*, ne_eq, not_false_eq_true, and_self]
  have pT : Pot T a (n + 1) := by
    obtain ⟨o, m, l, e, k⟩ := hp
    refine ⟨o, m, l, ?_, k⟩
    rw [← hT, DS.put_ne (ha _ h7), DS.put_ne (ha _ h6), DS.put_ne (ha _ h5), DS.put_ne (ha _ h4), DS.put_ne (ha _ h3), DS.put_ne (ha _ h2), DS.put_ne (ha _ h1)]; exact e
  refine ⟨a, p7, A ++ B, n, rfl, ha _ h7, pT, T7, by rw [← hA]; simp, by rw [List.length_append, lA, lB]; decide, fun d hd S' fr' pt => fgtQ_to ?_⟩
  rw [(fr.trans fr').back]
  refine q d S' (fr.trans fr') pt ?_
  have hm : ∀ {x : Addr} {o : MO}, S.mem x = none → T.mem x = some o → (S'.hide a).mem x = some o := fun {x o} e1 e2 => by
    show (if x = a then none else S'.mem x) = some o
    rw [if_neg (Ne.symm (ha x e1))]
    exact fr'.mem x o (Ne.symm (ha x e1)) e2
  have M1 := hm h1 T1
  have M2 := hm h2 T2
  have M3 := hm h3 T3
  have M5 := hm h5 T5
  generalize S'.hide a = U at M1 M2 M3 M5 ⊢
  rw [← hA, ← hB] at hd
  simp only [List.mem_append, List.mem_cons, List.not_mem_nil, or_false] at hd
  have dk : ∀ (x : Addr) (kvs : List (L2.Key × D)) (ts : List (Str × Str × Int × Int)), U.mem x = some (.dk kvs) → dictTs kvs = some ts → (∀ p ∈ ts, entOk p) → (dictText (ts.map entT)).length ≤ sizeLine → Vd U (.ref x) := fun x kvs ts e1 e2 e3 e4 => .inr ⟨x, kvs, ts, rfl, e1, e2, e3, e4⟩
  rcases hd with (rfl | rfl | rfl | rfl | rfl | rfl | rfl | rfl | rfl | rfl | rfl | rfl | rfl | rfl | rfl | rfl | rfl | rfl | rfl) | rfl | rfl | rfl | rfl | rfl | rfl | rfl | rfl | rfl
  all_goals first
    | exact .inl (.lit rfl (by kernel_rfl))
    | exact .inl (.lit (pd_lst (lstAt_lst M1) rfl) (by kernel_rfl))
    | exact .inl (.lit (pd_lst (lstAt_lst M3) rfl) (by kernel_rfl))
    | exact dk _ _ _ M2 rfl (by simp) (by rw [sizeLine_eq]; decide +kernel)
    | (refine dk _ _ _ M5 rfl (fun p hp => ?_) (by rw [sizeLine_eq]; decide +kernel); rw [List.mem_singleton.mp hp]; exact ⟨by rw [sizeLine_eq]; decide +kernel, by rw [sizeLine_eq]; decide +kernel, by decide +kernel, by decide +kernel⟩)
end LK

namespace LK
open PySem DL
def emp : DS := ⟨fun _ => none, fun _ => none⟩
theorem emp_le (S : DS) : LeM emp S := fun _ _ h => by cases h
def Pi : Nat → D → Prop
  | _, .int i => bd 1000 i
  | k + 1, .tup ds => ∀ d ∈ ds, Pi k d
  | _, _ => False
def CB (k : Nat) : FC := fun ds S Q _ => ∃ a v n w, ds = [.ref a, v] ∧ Pi k v ∧ Vp emp v w k ∧ w ≤ 5000 ∧ Pot S a (n + 2 * k + 2) ∧ ∀ d S', Fr a S S' → Pot S' a n → Vp (S'.hide a) d ((10 + 2 * k) * w + 50 + 10 * k) (k + 2) → Q d S'
theorem kBenti (G : GS) (Γ : Ga) {i14 i15 i18 i20 : Nat} (g15 : Γ.fn i15 = cOf) (k : Nat) : ∀ ds S0 Q E, (∃ i, ∃ a, ds = [.ref a, .int i] ∧ CB k ds S0 Q E) → wpSs G Γ (fBent i14 i15 i18 i20).core (eE S0 E) { nx := fun _ => fgtQ S0 Q .non, rt := fgtQ S0 Q } (startR (fBent i14 i15 i18 i20).C.N ds) S0 := by
  rintro ds S Q E ⟨i, a, rfl, a', v, n, w, e, hpi, hv, hw, hp, q⟩
  cases e
  have hi : bd 1000 i := by cases k <;> exact hpi
  simp (config := {decide := true}) only [fBent, wpSs, DL.wpS, wpE, wpX, star_tup, star_ref, wpEs, wpEn, wpO, wpCh, wpB, wpBs, wpBo, wpI, wpT, wpTs, boolOf, startR, CTs.len, CEs.len, CEs.isNil, upto_ff, upto_tt, List.length_cons, List.length_nil, List.map_cons, List.map_nil, List.replicate, List.cons_append, List.nil_append, List.append_nil, List.set_cons_zero, List.set_cons_succ, bind_some, bind_none, getV_nil, getV_0s, getV_0n, getV_s, if_true, if_false, Bool.false_eq_true, ite_self, true_and, and_true, blt_len, blt_abs, blt_max, blt_min, blt_sum, blt_all, blt_any, blt_repr, blt_isi, lst_ref, len_tup, len_str, len_ref, bty_int, bty_bool, bty_str, bty_strs, bty_tup, bty_tupl, bty_lst, bty_lstl, bin_add, bin_sub, bin_mul, bin_div, bin_mod, bin_pow, bin_adds, bin_addt, bin_mult, bin_addl, cmp_lt, cmp_le, cmp_gt, cmp_ge, cmp_eq, cmp_ne, cmp_eqs, cmp_nes, cmp_eqt, cmp_net, cmp_is, cmp_isn, tru_non, tru_bl', tru_int, tru_str, tru_tup, tru_ref, neg_int, ix_tup', ix_str', ix_ref', sl_tup', sl_str', sl_ref', rev_tup', part_int, walk_tup, walk_ref, walk_str, rng_1, rng_2, set_ref, aug_add, aug_sub, rg_1, rg_2, atI_0, atI_1, atI_2, ixN3_0, ixN3_1, ixN3_2, ex_lst, DS.put_same, lstAt_put, g15, (Ty.int (S := S) (i := i)).exc, isi_i (Ty.int (S := S) (i := i)), isi_b (Ty.int (S := S) (i := i)), isi_t (Ty.int (S := S) (i := i)), isTup, isBl, isInt0]
  have hlog := hi.log
  have wlog : i.natAbs.log2 + 2 ≤ w := by
    obtain ⟨p, e1, _, e3, _⟩ := hv
    cases e1
    exact e3
  refine ⟨by omega, powOk_bd (n := 4) (k := 9) (by decide) (by decide), fun p hpn => ?_⟩
  have ha : a ≠ p := fun e => hp.ne (e ▸ hpn)
  refine ⟨a, p, _, n, rfl, ha, (hp.less (k := n + 1) (by omega)).new hpn, lstAt_put, by simp, by simp, fun d hd S' fr pt => fgtQ_to ?_⟩
  have fr0 : Fr a S S' := (Fr.new hpn).trans fr
  rw [fr0.back]
  have hwk : 10 * w ≤ (10 + 2 * k) * w := Nat.mul_le_mul_right w (by omega)
  refine q d S' fr0 pt ((?_ : Vp (S'.hide a) d (10 * w + 50) (k + 2)).up (by omega) (Nat.le_refl _))
  have e9 : (10 : Int) ^ Int.toNat 9 = 1000000000 := by decide
  rw [e9] at hd
  have vi : ∀ {j : Int}, bd 1002 j → j.natAbs.log2 ≤ i.natAbs.log2 + 2 → Vp (S'.hide a) (.int j) (10 * w + 50) (k + 2) := fun {j} b l => ((Vp.int (S := S'.hide a) (i := j) (n := i.natAbs.log2 + 3) (by omega) (by omega))).up (by omega) (by omega)
  have lg : ∀ {j : Int}, j.natAbs ≤ i.natAbs + 1 → j.natAbs.log2 ≤ i.natAbs.log2 + 2 := fun {j} h => by
    have h1 : i.natAbs < 2 ^ (i.natAbs.log2 + 1) := Nat.lt_log2_self
    by_cases h0 : j.natAbs = 0
    · rw [h0]; simp
    · have h2 : j.natAbs < 2 ^ (i.natAbs.log2 + 2) := by rw [Nat.pow_succ]; omega
      exact Nat.le_of_lt ((Nat.log2_lt h0).mpr h2)
  simp only [List.mem_cons, List.not_mem_nil, or_false] at hd
  rcases hd with rfl | rfl | rfl | rfl | rfl | rfl | rfl | rfl
  · exact vi ((hi.add (show bd 1000 1 by decide)).mono (by decide)) (lg (by omega))
  · exact vi ((hi.sub (show bd 1000 1 by decide)).mono (by decide)) (lg (by omega))
  · exact vi ((hi.neg.sub (show bd 1000 1 by decide)).mono (by decide)) (lg (by omega))
  · exact (Vp.strInt (i := i)).up (by omega) (by omega)
  · exact Vp.bl.up (by omega) (by omega)
  · exact Vp.non.up (by omega) (by omega)
  · exact (Vp.tup (n := i.natAbs.log2 + 2) (m := 0) (ds := [.int i]) (fun d hd => by rw [List.mem_singleton.mp hd]; exact Vp.int (Nat.lt_succ_self _) (by omega))).up (by simp; omega) (by omega)
  · exact ((Vp.lit (p := .int 1000000000) (n := 40) (m := 0) rfl (by decide +kernel))).up (by omega) (by omega)
end LK

namespace LK
open PySem DL
theorem kBentt (G : GS) (Γ : Ga) {i14 i15 i18 i20 : Nat} (g14 : Γ.fn i14 = cTake) (g15 : Γ.fn i15 = cOf) (k : Nat) (hk : k ≤ 10) (g20 : Γ.fn i20 = CB k) : ∀ ds S0 Q E, (∃ xs a, ds = [.ref a, .tup xs] ∧ CB (k + 1) ds S0 Q E) → wpSs G Γ (fBent i14 i15 i18 i20).core (eE S0 E) { nx := fun _ => fgtQ S0 Q .non, rt := fgtQ S0 Q } (startR (fBent i14 i15 i18 i20).C.N ds) S0 := by
  rintro ds S Q E ⟨xs, a, rfl, a', v, n, w, e, hpi, hv, hw, hp, q⟩
  cases e
  have ht : ∀ S1, Ty S1 (.tup xs) := fun _ => Ty.tup
  have hlen := hv.len
  have vE : ∀ S', Vp S' (.tup xs) w (k + 1) := fun S' => hv.mono (emp_le S') (Nat.le_refl _) (Nat.le_refl _)
  have sz : sizeLine = 16777216 := sizeLine_eq
  obtain ⟨vl, kAreWholes, _⟩ := hv.un
  have vl : Vl emp xs (w - 3) k := vl
  have ne : S.mem a ≠ none := hp.ne
  have hwk : (10 + 2 * (k + 1)) * w = (10 + 2 * k) * w + 2 * w := by rw [← Nat.add_mul]; congr 1
  have hwk2 : 10 * w ≤ (10 + 2 * k) * w := Nat.mul_le_mul_right w (by omega)
  have clen : ∀ lo hi, (cutD xs lo hi).length ≤ xs.length := fun lo hi => by
    unfold cutD
    rw [List.length_take, List.length_drop]; omega
  have L : ∀ S1, Fr a S S1 → Pot S1 a (n + 1) → ∀ p, S1.mem p = none → xs.length + (cutD xs (some (-1)) none).length ≤ sizeLine ∧ ∀ p1, (S1.put p (MO.lst xs)).mem p1 = none → cOf [D.ref a, D.ref p1]
      ((S1.put p (MO.lst xs)).put p1 (MO.lst [D.ref p, D.tup (cutD xs (some 1) none), D.tup (cutD xs none (some (-1))), D.tup (xs ++ cutD xs (some (-1)) none), D.tup xs.reverse, D.tup [], D.non])) (fgtQ S Q) (eE S E) := by
    intro S1 fr1 pt1 p hp0
    have := clen (some (-1)) none
    refine ⟨by omega, fun p1 hp1 => ?_⟩
    rw [put_none] at hp1
    have pp : ∀ x, S1.mem x = none → a ≠ x := fun x h e => fr1.at_ ne (e ▸ h)
    have fr2 : Fr a S1 ((S1.put p (MO.lst xs)).put p1 (MO.lst [D.ref p, D.tup (cutD xs (some 1) none), D.tup (cutD xs none (some (-1))), D.tup (xs ++ cutD xs (some (-1)) none), D.tup xs.reverse, D.tup [], D.non])) := (Fr.new hp0).trans (Fr.new (by rw [put_none]; exact hp1))
    refine ⟨a, p1, _, n, rfl, pp _ hp1.2, (pt1.new hp0).new (by rw [put_none]; exact hp1), lstAt_put, by simp, by simp, fun d hd S' fr pt => fgtQ_to ?_⟩
    rw [((fr1.trans fr2).trans fr).back]
    refine q d S' ((fr1.trans fr2).trans fr) pt ?_
    have M : lstAt (S'.hide a) p = some xs := by
      refine lstAt_lst ?_
      show (if p = a then none else S'.mem p) = _
      rw [if_neg (Ne.symm (pp _ hp0))]
      refine fr.mem p _ (Ne.symm (pp _ hp0)) ?_
      rw [DS.put_ne (Ne.symm hp1.1), DS.put_same]
    have vl' : Vl (S'.hide a) xs (w - 3) k := vl.mono (emp_le _)
    generalize S'.hide a = U at M vl' ⊢
    simp only [List.mem_cons, List.not_mem_nil, or_false] at hd
    have t : ∀ {ys m}, Vl U ys m k → m ≤ 2 * w → Vp U (.tup ys) ((10 + 2 * (k + 1)) * w + 50 + 10 * (k + 1)) (k + 1 + 2) := fun {ys m} v l => v.tup.up (by omega) (by omega)
    rcases hd with rfl | rfl | rfl | rfl | rfl | rfl | rfl
    · exact (Vl.lst (S := emp) vl M).up (by omega) (by omega)
    · exact t (vl'.cut _ _) (by omega)
    · exact t (vl'.cut _ _) (by omega)
    · exact t ((Vl.app (vl'.cut _ _) vl').up (by omega) (by omega) : Vl U _ (w - 3 + (w - 3)) k) (by omega)
    · exact t vl'.rev (by omega)
    · exact t (Vl.nil (n := 0)) (by omega)
    · exact Vp.non.up (by omega) (by omega)
  simp (config := {decide := true}) only [fBent, wpSs, DL.wpS, wpE, wpX, star_tup, star_ref, wpEs, wpEn, wpO, wpCh, wpB, wpBs, wpBo, wpI, wpT, wpTs, boolOf, startR, CTs.len, CEs.len, CEs.isNil, upto_ff, upto_tt, List.length_cons, List.length_nil, List.map_cons, List.map_nil, List.replicate, List.cons_append, List.nil_append, List.append_nil, List.set_cons_zero, List.set_cons_succ, bind_some, bind_none, getV_nil, getV_0s, getV_0n, getV_s, if_true, if_false, Bool.false_eq_true, ite_self, true_and, and_true, blt_len, blt_abs, blt_max, blt_min, blt_sum, blt_all, blt_any, blt_repr, blt_isi, lst_ref, len_tup, len_str, len_ref, bty_int, bty_bool, bty_str, bty_strs, bty_tup, bty_tupl, bty_lst, bty_lstl, bin_add, bin_sub, bin_mul, bin_div, bin_mod, bin_pow, bin_adds, bin_addt, bin_mult, bin_addl, cmp_lt, cmp_le, cmp_gt, cmp_ge, cmp_eq, cmp_ne, cmp_eqs, cmp_nes, cmp_eqt, cmp_net, cmp_is, cmp_isn, tru_non, tru_bl', tru_int, tru_str, tru_tup, tru_ref, neg_int, ix_tup', ix_str', ix_ref', sl_tup', sl_str', sl_ref', rev_tup', part_int, walk_tup, walk_ref, walk_str, rng_1, rng_2, set_ref, aug_add, aug_sub, rg_1, rg_2, atI_0, atI_1, atI_2, ixN3_0, ixN3_1, ixN3_2, ex_lst, DS.put_same, lstAt_put, g14, g15, g20, (ht S).exc, isi_i (ht _), isi_b (ht _), isi_t (ht _), isi_s (ht _), isTup, isBl, isInt0, isStrD]
  obtain ⟨pt, p1, p2, p3, p4⟩ := vE S
  obtain ⟨ps, rfl, pw⟩ := pd_tup p1
  have hps := pdWs_len pw
  refine ⟨.tuple ps, .tuple [], p1, rfl, okP_shaped p2 (by omega), shaped_nilT, ?_⟩
  rw [eqv_nilT]
  cases xs with
  | nil =>
    have : ps = [] := List.eq_nil_of_length_eq_zero hps.symm
    subst this
    exact L S (Fr.refl a S) (hp.less (by omega))
  | cons x0 xs0 =>
    have : ps.isEmpty = false := by cases ps with
      | nil => cases hps
      | cons _ _ => rfl
    rw [this]
    generalize hX : x0 :: xs0 = xs at *
    have hpos : 0 < xs.length := by rw [← hX]; simp
    simp only [Bool.not_false, if_true]
    refine ⟨a, 5, n + 2 * k + 3, rfl, by decide, by decide, hp.less (by omega), fun r S1 fr1 pt1 r0 r1 => ?_⟩
    simp only [cmp_gt]
    by_cases hr : 0 < r
    · simp only [hr, decide_true, if_true]
      refine ⟨a, xs.length, n + 2 * k + 2, rfl, by omega, bd_of_lt (by omega) (by omega), pt1.less (by omega), fun r2 S2 fr2 pt2 r20 r21 => ?_⟩
      obtain ⟨d, e1, _, e2⟩ := atI_in (xs := xs) r20 r21
      simp only [part_int, ix_tup', e1, bind_some, bin_add]
      have hpd : Pi k d := hpi d e2
      refine ⟨a, d, n, w, rfl, hpd, hv.item e2 |>.up (Nat.le_refl _) (Nat.le_refl _), hw, pt2, fun d' S' fr3 pt3 v3 => ?_⟩
      have c1 := clen none (some r2)
      have c2 := clen (some (r2 + 1)) none
      refine ⟨by omega, by rw [List.length_append]; simp only [List.length_cons, List.length_nil]; omega, fgtQ_to ?_⟩
      rw [((fr1.trans fr2).trans fr3).back]
      refine q _ S' ((fr1.trans fr2).trans fr3) pt3 ?_
      have vl' : Vl (S'.hide a) xs (w - 3) k := vl.mono (emp_le _)
      have v4 := Vl.app (vl'.cut (some (r2 + 1)) none) (Vl.app (Vl.cons v3 (Vl.nil (n := 0) (m := 0))) (vl'.cut none (some r2)))
      exact v4.tup.up (by omega) (by omega)
    · simp only [hr, decide_false, if_false, Bool.false_eq_true]
      exact L S1 fr1 (pt1.less (by omega))
theorem kBent_0 (G : GS) (Γ : Ga) {i14 i15 i18 i20 : Nat} (g15 : Γ.fn i15 = cOf) : Keeps G Γ (fBent i14 i15 i18 i20) (CB 0) := by
  rintro ds S Q E h
  obtain ⟨a, v, n, w, e, hpi, r⟩ := h
  cases v with
  | int i => exact kBenti G Γ g15 0 ds S Q E ⟨i, a, e, a, .int i, n, w, e, hpi, r⟩
  | _ => cases hpi
theorem kBent_1 (G : GS) (Γ : Ga) {i14 i15 i18 i20 : Nat} (g14 : Γ.fn i14 = cTake) (g15 : Γ.fn i15 = cOf) (g20 : Γ.fn i20 = CB 0) : Keeps G Γ (fBent i14 i15 i18 i20) (CB 1) := by
  rintro ds S Q E h
  obtain ⟨a, v, n, w, e, hpi, r⟩ := h
  cases v with
  | int i => exact kBenti G Γ g15 1 ds S Q E ⟨i, a, e, a, .int i, n, w, e, hpi, r⟩
  | tup xs => exact kBentt G Γ g14 g15 0 (by decide) g20 ds S Q E ⟨xs, a, e, a, .tup xs, n, w, e, hpi, r⟩
  | _ => cases hpi
end LK

namespace LK
open PySem DL
theorem kTimes (G : GS) (Γ : Ga) : Keeps G Γ fTimes cProd := by
  rintro ds S Q E ⟨x, y, n, m, rfl, hx, hy, l, q⟩
  simp (config := {decide := true}) only [fTimes, M2.toD, wpSs, DL.wpS, wpE, wpX, star_tup, star_ref, wpEs, wpEn, wpO, wpCh, wpB, wpBs, wpBo, wpI, wpT, wpTs, boolOf, startR, CTs.len, CEs.len, CEs.isNil, upto_ff, upto_tt, List.length_cons, List.length_nil, List.map_cons, List.map_nil, List.replicate, List.cons_append, List.nil_append, List.append_nil, List.set_cons_zero, List.set_cons_succ, bind_some, bind_none, getV_nil, getV_0s, getV_0n, getV_s, if_true, if_false, Bool.false_eq_true, ite_self, true_and, and_true, blt_len, blt_abs, blt_max, blt_min, blt_sum, blt_all, blt_any, blt_repr, blt_isi, lst_ref, len_tup, len_str, len_ref, bty_int, bty_bool, bty_str, bty_strs, bty_tup, bty_tupl, bty_lst, bty_lstl, bin_add, bin_sub, bin_mul, bin_div, bin_mod, bin_pow, bin_adds, bin_addt, bin_mult, bin_addl, cmp_lt, cmp_le, cmp_gt, cmp_ge, cmp_eq, cmp_ne, cmp_eqs, cmp_nes, cmp_eqt, cmp_net, cmp_is, cmp_isn, tru_non, tru_bl', tru_int, tru_str, tru_tup, tru_ref, neg_int, ix_tup', ix_str', ix_ref', sl_tup', sl_str', sl_ref', rev_tup', part_int, walk_tup, walk_ref, walk_str, rng_1, rng_2, set_ref, aug_add, aug_sub, rg_1, rg_2, atI_0, atI_1, atI_2, ixN3_0, ixN3_1, ixN3_2, ex_lst, DS.put_same, lstAt_put]
  intro p hp
  refine forS_ind (fun i ρ S' => ρ = [some (M2.toD x), some (M2.toD y), some (.ref p), none, none] ∧ LeM S S' ∧ S'.mem p = some (.lst ([D.tup [.int (x.mul y).a, .int (x.mul y).b], D.tup [.int (x.mul y).c, .int (x.mul y).d]].take i))) (fun i d ρ S' hd h => ⟨trivial, fun K hK => ?_⟩) (fun ρ S' h => ⟨trivial, ?_⟩) ⟨rfl, (LeM.refl S).put hp, by rw [DS.put_same]; rfl⟩
  · obtain ⟨rfl, le, hm⟩ := h
    have hm' : S'.nolam.mem p = _ := hm
    obtain ⟨u, v, rfl, hu, hv, hlen, ht⟩ : ∃ u v, d = .tup [.int u, .int v] ∧ bd n u ∧ bd n v ∧ ([D.tup [.int (x.mul y).a, .int (x.mul y).b], D.tup [.int (x.mul y).c, .int (x.mul y).d]].take i).length < sizeLine ∧
        [D.tup [.int (x.mul y).a, .int (x.mul y).b], D.tup [.int (x.mul y).c, .int (x.mul y).d]].take (i + 1) = [D.tup [.int (x.mul y).a, .int (x.mul y).b], D.tup [.int (x.mul y).c, .int (x.mul y).d]].take i ++ [.tup [.int (u * y.a + v * y.c), .int (u * y.b + v * y.d)]] := by
      rw [sizeLine_eq]
      match i, hd with
      | 0, hd => cases hd; exact ⟨_, _, rfl, hx.a, hx.b, by simp, rfl⟩
      | 1, hd => cases hd; exact ⟨_, _, rfl, hx.c, hx.d, by simp, rfl⟩
      | i + 2, hd => cases hd
    have r2 : rngD 0 1 (Int.toNat 2) = [.int 0, .int 1] := rfl
    simp (config := {decide := true}) only [M2.toD, wpSs, DL.wpS, wpE, wpX, star_tup, star_ref, wpEs, wpEn, wpO, wpCh, wpB, wpBs, wpBo, wpI, wpT, wpTs, boolOf, startR, CTs.len, CEs.len, CEs.isNil, upto_ff, upto_tt, List.length_cons, List.length_nil, List.map_cons, List.map_nil, List.replicate, List.cons_append, List.nil_append, List.append_nil, List.set_cons_zero, List.set_cons_succ, bind_some, bind_none, getV_nil, getV_0s, getV_0n, getV_s, if_true, if_false, Bool.false_eq_true, ite_self, true_and, and_true, blt_len, blt_abs, blt_max, blt_min, blt_sum, blt_all, blt_any, blt_repr, blt_isi, lst_ref, len_tup, len_str, len_ref, bty_int, bty_bool, bty_str, bty_strs, bty_tup, bty_tupl, bty_lst, bty_lstl, bin_add, bin_sub, bin_mul, bin_div, bin_mod, bin_pow, bin_adds, bin_addt, bin_mult, bin_addl, cmp_lt, cmp_le, cmp_gt, cmp_ge, cmp_eq, cmp_ne, cmp_eqs, cmp_nes, cmp_eqt, cmp_net, cmp_is, cmp_isn, tru_non, tru_bl', tru_int, tru_str, tru_tup, tru_ref, neg_int, ix_tup', ix_str', ix_ref', sl_tup', sl_str', sl_ref', rev_tup', part_int, walk_tup, walk_ref, walk_str, rng_1, rng_2, set_ref, aug_add, aug_sub, rg_1, rg_2, atI_0, atI_1, atI_2, ixN3_0, ixN3_1, ixN3_2, ex_lst, DS.put_same, lstAt_put, met_append hm', lcQ, wipeR, r2, lcS]
    refine ⟨by constructor <;> decide, mulOk_bd hu hy.a l, mulOk_bd hv hy.c l, mulOk_bd hu hy.b l, mulOk_bd hv hy.d l, fun p1 hp1 => ?_⟩
    have hp1 : S'.mem p1 = none := hp1
    have ne : p ≠ p1 := fun z => by subst z; rw [hm] at hp1; cases hp1
    rw [mets_append (xs := List.take i _) (by rw [DS.put_ne ne]; exact hm)]
    refine ⟨hlen, hK _ _ (fgt_of (.cons (.cons (.cons (.cons (.cons .nil (.inl rfl)) (.inr rfl)) (.inl rfl)) (.inl rfl)) (.inl rfl)) (LeS.refl _) ⟨rfl, ?_, ?_⟩)⟩
    · exact LeM.put (LeM.put (S' := (S'.nolam.back S'.nolam)) le (le.none hp1)) hp
    · rw [DS.put_same, ht]
  · obtain ⟨rfl, le, hm⟩ := h
    simp (config := {decide := true}) only [M2.toD, wpSs, DL.wpS, wpE, wpX, star_tup, star_ref, wpEs, wpEn, wpO, wpCh, wpB, wpBs, wpBo, wpI, wpT, wpTs, boolOf, startR, CTs.len, CEs.len, CEs.isNil, upto_ff, upto_tt, List.length_cons, List.length_nil, List.map_cons, List.map_nil, List.replicate, List.cons_append, List.nil_append, List.append_nil, List.set_cons_zero, List.set_cons_succ, bind_some, bind_none, getV_nil, getV_0s, getV_0n, getV_s, if_true, if_false, Bool.false_eq_true, ite_self, true_and, and_true, blt_len, blt_abs, blt_max, blt_min, blt_sum, blt_all, blt_any, blt_repr, blt_isi, lst_ref, len_tup, len_str, len_ref, bty_int, bty_bool, bty_str, bty_strs, bty_tup, bty_tupl, bty_lst, bty_lstl, bin_add, bin_sub, bin_mul, bin_div, bin_mod, bin_pow, bin_adds, bin_addt, bin_mult, bin_addl, cmp_lt, cmp_le, cmp_gt, cmp_ge, cmp_eq, cmp_ne, cmp_eqs, cmp_nes, cmp_eqt, cmp_net, cmp_is, cmp_isn, tru_non, tru_bl', tru_int, tru_str, tru_tup, tru_ref, neg_int, ix_tup', ix_str', ix_ref', sl_tup', sl_str', sl_ref', rev_tup', part_int, walk_tup, walk_ref, walk_str, rng_1, rng_2, set_ref, aug_add, aug_sub, rg_1, rg_2, atI_0, atI_1, atI_2, ixN3_0, ixN3_1, ixN3_2, ex_lst, DS.put_same, lstAt_put, lstAt_lst hm]
    refine fgtQ_mem le q
theorem kLTurns (G : GS) (Γ : Ga) {i21 : Nat} (g21 : Γ.fn i21 = cProd) : Keeps G Γ (fLTurns i21) cTurns := by
  rintro ds S Q E ⟨is, rfl, hs, hl, q⟩
  simp (config := {decide := true}) only [fLTurns, intsD, wpSs, DL.wpS, wpE, wpX, star_tup, star_ref, wpEs, wpEn, wpO, wpCh, wpB, wpBs, wpBo, wpI, wpT, wpTs, boolOf, startR, CTs.len, CEs.len, CEs.isNil, upto_ff, upto_tt, List.length_cons, List.length_nil, List.map_cons, List.map_nil, List.replicate, List.cons_append, List.nil_append, List.append_nil, List.set_cons_zero, List.set_cons_succ, bind_some, bind_none, getV_nil, getV_0s, getV_0n, getV_s, if_true, if_false, Bool.false_eq_true, ite_self, true_and, and_true, blt_len, blt_abs, blt_max, blt_min, blt_sum, blt_all, blt_any, blt_repr, blt_isi, lst_ref, len_tup, len_str, len_ref, bty_int, bty_bool, bty_str, bty_strs, bty_tup, bty_tupl, bty_lst, bty_lstl, bin_add, bin_sub, bin_mul, bin_div, bin_mod, bin_pow, bin_adds, bin_addt, bin_mult, bin_addl, cmp_lt, cmp_le, cmp_gt, cmp_ge, cmp_eq, cmp_ne, cmp_eqs, cmp_nes, cmp_eqt, cmp_net, cmp_is, cmp_isn, tru_non, tru_bl', tru_int, tru_str, tru_tup, tru_ref, neg_int, ix_tup', ix_str', ix_ref', sl_tup', sl_str', sl_ref', rev_tup', part_int, walk_tup, walk_ref, walk_str, rng_1, rng_2, set_ref, aug_add, aug_sub, rg_1, rg_2, atI_0, atI_1, atI_2, ixN3_0, ixN3_1, ixN3_2, ex_lst, DS.put_same, lstAt_put, g21]
  refine forS_ind (fun i ρ S' => S' = S ∧ ρ = [some (intsD is), some (M2.turns (is.take i)).toD, none]) (fun i d ρ S' hd hp => ⟨trivial, fun K hK => ?_⟩) (fun ρ S' hp => ⟨trivial, ?_⟩) ⟨rfl, rfl⟩
  · obtain ⟨rfl, rfl⟩ := hp
    rw [List.getElem?_map] at hd
    cases e : is[i]? with
    | none => rw [e] at hd; cases hd
    | some n =>
      rw [e] at hd; cases hd
      simp (config := {decide := true}) only [wpSs, DL.wpS, wpE, wpX, star_tup, star_ref, wpEs, wpEn, wpO, wpCh, wpB, wpBs, wpBo, wpI, wpT, wpTs, boolOf, startR, CTs.len, CEs.len, CEs.isNil, upto_ff, upto_tt, List.length_cons, List.length_nil, List.map_cons, List.map_nil, List.replicate, List.cons_append, List.nil_append, List.append_nil, List.set_cons_zero, List.set_cons_succ, bind_some, bind_none, getV_nil, getV_0s, getV_0n, getV_s, if_true, if_false, Bool.false_eq_true, ite_self, true_and, and_true, blt_len, blt_abs, blt_max, blt_min, blt_sum, blt_all, blt_any, blt_repr, blt_isi, lst_ref, len_tup, len_str, len_ref, bty_int, bty_bool, bty_str, bty_strs, bty_tup, bty_tupl, bty_lst, bty_lstl, bin_add, bin_sub, bin_mul, bin_div, bin_mod, bin_pow, bin_adds, bin_addt, bin_mult, bin_addl, cmp_lt, cmp_le, cmp_gt, cmp_ge, cmp_eq, cmp_ne, cmp_eqs, cmp_nes, cmp_eqt, cmp_net, cmp_is, cmp_isn, tru_non, tru_bl', tru_int, tru_str, tru_tup, tru_ref, neg_int, ix_tup', ix_str', ix_ref', sl_tup', sl_str', sl_ref', rev_tup', part_int, walk_tup, walk_ref, walk_str, rng_1, rng_2, set_ref, aug_add, aug_sub, rg_1, rg_2, atI_0, atI_1, atI_2, ixN3_0, ixN3_1, ixN3_2, ex_lst, DS.put_same, lstAt_put]
      have hm : n ∈ is := List.mem_of_getElem? e
      have li : i < is.length := (List.getElem?_eq_some_iff.mp e).1
      refine ⟨M2.turns (is.take i), M2.turn n, _, _, rfl, M2.bd_turns (n := 20) (by decide) (fun j hj => hs j (List.mem_of_mem_take hj)), M2.bd_turn (hs n hm) (by decide), ?_, hK _ _ (fgt_of (.cons (.cons (.cons .nil (.inr rfl)) (.inl rfl)) (.inl rfl)) (LeS.refl _) ⟨rfl, ?_⟩)⟩
      · rw [List.length_take]; omega
      · rw [take_succ_get e, M2.turns_append]
        simp [M2.turns, M2.one_mul]
  · obtain ⟨rfl, rfl⟩ := hp
    rw [List.length_map, List.take_length]
    simp (config := {decide := true}) only [wpSs, DL.wpS, wpE, wpX, star_tup, star_ref, wpEs, wpEn, wpO, wpCh, wpB, wpBs, wpBo, wpI, wpT, wpTs, boolOf, startR, CTs.len, CEs.len, CEs.isNil, upto_ff, upto_tt, List.length_cons, List.length_nil, List.map_cons, List.map_nil, List.replicate, List.cons_append, List.nil_append, List.append_nil, List.set_cons_zero, List.set_cons_succ, bind_some, bind_none, getV_nil, getV_0s, getV_0n, getV_s, if_true, if_false, Bool.false_eq_true, ite_self, true_and, and_true, blt_len, blt_abs, blt_max, blt_min, blt_sum, blt_all, blt_any, blt_repr, blt_isi, lst_ref, len_tup, len_str, len_ref, bty_int, bty_bool, bty_str, bty_strs, bty_tup, bty_tupl, bty_lst, bty_lstl, bin_add, bin_sub, bin_mul, bin_div, bin_mod, bin_pow, bin_adds, bin_addt, bin_mult, bin_addl, cmp_lt, cmp_le, cmp_gt, cmp_ge, cmp_eq, cmp_ne, cmp_eqs, cmp_nes, cmp_eqt, cmp_net, cmp_is, cmp_isn, tru_non, tru_bl', tru_int, tru_str, tru_tup, tru_ref, neg_int, ix_tup', ix_str', ix_ref', sl_tup', sl_str', sl_ref', rev_tup', part_int, walk_tup, walk_ref, walk_str, rng_1, rng_2, set_ref, aug_add, aug_sub, rg_1, rg_2, atI_0, atI_1, atI_2, ixN3_0, ixN3_1, ixN3_2, ex_lst, DS.put_same, lstAt_put]
    exact fgtQ_same q
theorem kLDet (G : GS) (Γ : Ga) : Keeps G Γ fLDet cDet := by
  rintro ds S Q E ⟨is, rfl, hs, hl, q⟩
  simp (config := {decide := true}) only [fLDet, intsD, wpSs, DL.wpS, wpE, wpX, star_tup, star_ref, wpEs, wpEn, wpO, wpCh, wpB, wpBs, wpBo, wpI, wpT, wpTs, boolOf, startR, CTs.len, CEs.len, CEs.isNil, upto_ff, upto_tt, List.length_cons, List.length_nil, List.map_cons, List.map_nil, List.replicate, List.cons_append, List.nil_append, List.append_nil, List.set_cons_zero, List.set_cons_succ, bind_some, bind_none, getV_nil, getV_0s, getV_0n, getV_s, if_true, if_false, Bool.false_eq_true, ite_self, true_and, and_true, blt_len, blt_abs, blt_max, blt_min, blt_sum, blt_all, blt_any, blt_repr, blt_isi, lst_ref, len_tup, len_str, len_ref, bty_int, bty_bool, bty_str, bty_strs, bty_tup, bty_tupl, bty_lst, bty_lstl, bin_add, bin_sub, bin_mul, bin_div, bin_mod, bin_pow, bin_adds, bin_addt, bin_mult, bin_addl, cmp_lt, cmp_le, cmp_gt, cmp_ge, cmp_eq, cmp_ne, cmp_eqs, cmp_nes, cmp_eqt, cmp_net, cmp_is, cmp_isn, tru_non, tru_bl', tru_int, tru_str, tru_tup, tru_ref, neg_int, ix_tup', ix_str', ix_ref', sl_tup', sl_str', sl_ref', rev_tup', part_int, walk_tup, walk_ref, walk_str, rng_1, rng_2, set_ref, aug_add, aug_sub, rg_1, rg_2, atI_0, atI_1, atI_2, ixN3_0, ixN3_1, ixN3_2, ex_lst, DS.put_same, lstAt_put]
  intro p hp
  refine forS_ind (fun i ρ S' => ρ = [some (intsD is), some (.ref p), none] ∧ LeM S S' ∧ ∃ pre : List D, pre.length = i ∧ S'.mem p = some (.lst (pre ++ [.int (contP (is.take i)).1, .int (contP (is.take i)).2]))) (fun i d ρ S' hd h => ⟨trivial, fun K hK => ?_⟩) (fun ρ S' h => ⟨trivial, ?_⟩)
    ⟨rfl, (LeM.refl S).put hp, [], rfl, by rw [DS.put_same]; rfl⟩
  · obtain ⟨rfl, le, pre, hpre, hm⟩ := h
    rw [List.getElem?_map] at hd
    cases e : is[i]? with
    | none => rw [e] at hd; cases hd
    | some n =>
      rw [e] at hd; cases hd
      have hmem : n ∈ is := List.mem_of_getElem? e
      have li : i < is.length := (List.getElem?_eq_some_iff.mp e).1
      obtain ⟨b1, b2⟩ := bd_contP i (is := is.take i) (fun j hj => hs j (List.mem_of_mem_take hj)) (by rw [List.length_take]; omega)
      simp (config := {decide := true}) only [wpSs, DL.wpS, wpE, wpX, star_tup, star_ref, wpEs, wpEn, wpO, wpCh, wpB, wpBs, wpBo, wpI, wpT, wpTs, boolOf, startR, CTs.len, CEs.len, CEs.isNil, upto_ff, upto_tt, List.length_cons, List.length_nil, List.map_cons, List.map_nil, List.replicate, List.cons_append, List.nil_append, List.append_nil, List.set_cons_zero, List.set_cons_succ, bind_some, bind_none, getV_nil, getV_0s, getV_0n, getV_s, if_true, if_false, Bool.false_eq_true, ite_self, true_and, and_true, blt_len, blt_abs, blt_max, blt_min, blt_sum, blt_all, blt_any, blt_repr, blt_isi, lst_ref, len_tup, len_str, len_ref, bty_int, bty_bool, bty_str, bty_strs, bty_tup, bty_tupl, bty_lst, bty_lstl, bin_add, bin_sub, bin_mul, bin_div, bin_mod, bin_pow, bin_adds, bin_addt, bin_mult, bin_addl, cmp_lt, cmp_le, cmp_gt, cmp_ge, cmp_eq, cmp_ne, cmp_eqs, cmp_nes, cmp_eqt, cmp_net, cmp_is, cmp_isn, tru_non, tru_bl', tru_int, tru_str, tru_tup, tru_ref, neg_int, ix_tup', ix_str', ix_ref', sl_tup', sl_str', sl_ref', rev_tup', part_int, walk_tup, walk_ref, walk_str, rng_1, rng_2, set_ref, aug_add, aug_sub, rg_1, rg_2, atI_0, atI_1, atI_2, ixN3_0, ixN3_1, ixN3_2, ex_lst, DS.put_same, lstAt_put, met_append hm, lstAt_lst hm, atI_l1, atI_l2, mets_append hm]
      refine ⟨mulOk_bd (hs n hmem) b2 (by omega), by rw [List.length_append, sizeLine_eq]; simp only [List.length_cons, List.length_nil]; omega, hK _ _ (fgt_of (.cons (.cons (.cons .nil (.inr rfl)) (.inl rfl)) (.inl rfl)) (LeS.refl _) ⟨rfl, le.put hp, pre ++ [.int (contP (is.take i)).1], by simp [hpre], ?_⟩)⟩
      rw [DS.put_same, take_succ_get e, contP_snoc]
      simp [contStep]
  · obtain ⟨rfl, le, pre, hpre, hm⟩ := h
    rw [List.length_map, List.take_length] at hm
    simp (config := {decide := true}) only [wpSs, DL.wpS, wpE, wpX, star_tup, star_ref, wpEs, wpEn, wpO, wpCh, wpB, wpBs, wpBo, wpI, wpT, wpTs, boolOf, startR, CTs.len, CEs.len, CEs.isNil, upto_ff, upto_tt, List.length_cons, List.length_nil, List.map_cons, List.map_nil, List.replicate, List.cons_append, List.nil_append, List.append_nil, List.set_cons_zero, List.set_cons_succ, bind_some, bind_none, getV_nil, getV_0s, getV_0n, getV_s, if_true, if_false, Bool.false_eq_true, ite_self, true_and, and_true, blt_len, blt_abs, blt_max, blt_min, blt_sum, blt_all, blt_any, blt_repr, blt_isi, lst_ref, len_tup, len_str, len_ref, bty_int, bty_bool, bty_str, bty_strs, bty_tup, bty_tupl, bty_lst, bty_lstl, bin_add, bin_sub, bin_mul, bin_div, bin_mod, bin_pow, bin_adds, bin_addt, bin_mult, bin_addl, cmp_lt, cmp_le, cmp_gt, cmp_ge, cmp_eq, cmp_ne, cmp_eqs, cmp_nes, cmp_eqt, cmp_net, cmp_is, cmp_isn, tru_non, tru_bl', tru_int, tru_str, tru_tup, tru_ref, neg_int, ix_tup', ix_str', ix_ref', sl_tup', sl_str', sl_ref', rev_tup', part_int, walk_tup, walk_ref, walk_str, rng_1, rng_2, set_ref, aug_add, aug_sub, rg_1, rg_2, atI_0, atI_1, atI_2, ixN3_0, ixN3_1, ixN3_2, ex_lst, DS.put_same, lstAt_put, lstAt_lst hm, atI_l1]
    exact fgtQ_mem le q
end LK

namespace LK
open PySem DL
def cLIsRow : FC := fun ds S Q _ => ∃ v, ds = [v, .int 0] ∧ TyT S v ∧ Q (.bl (isRowD v)) S
theorem isRow_law (ds : List D) (hl : ds.length ≤ 40) : isRowD (.tup ds) = ds.all fun d => isIntD d (-1000000) 1000000 := by
  rw [Bool.eq_iff_iff]
  simp only [isRowD, Bool.and_eq_true, List.all_eq_true, decide_eq_true_eq]
  constructor
  · intro h d hd
    have h1 := h.1.1 d hd
    have h2 := h.2 d hd
    cases d with
    | int i =>
      simp only [smallD, decide_eq_true_eq] at h2
      simp only [isIntD, Bool.and_eq_true, decide_eq_true_eq]
      omega
    | _ => cases h1
  · intro h
    refine ⟨⟨fun d hd => ?_, hl⟩, fun d hd => ?_⟩
    · have h1 := h d hd
      cases d with
      | int i => rfl
      | _ => cases h1
    · have h1 := h d hd
      cases d with
      | int i =>
        simp only [isIntD, Bool.and_eq_true, decide_eq_true_eq] at h1
        simp only [smallD, decide_eq_true_eq]
        omega
      | _ => cases h1
theorem kLIsRow (G : GS) (Γ : Ga) {i19 : Nat} (g19 : Γ.fn i19 = cIsInt) : Keeps G Γ (fLIsRow i19) cLIsRow := by
  rintro ds S Q E ⟨v, rfl, hv, q⟩
  have pw6 : powOk 10 6 := powOk_bd (n := 4) (k := 6) (by decide) (by decide)
  have e6 : (10 : Int) ^ Int.toNat 6 = 1000000 := by decide
  simp (config := {decide := true}) only [fLIsRow, wpSs, DL.wpS, wpE, wpX, star_tup, star_ref, wpEs, wpEn, wpO, wpCh, wpB, wpBs, wpBo, wpI, wpT, wpTs, boolOf, startR, CTs.len, CEs.len, CEs.isNil, upto_ff, upto_tt, List.length_cons, List.length_nil, List.map_cons, List.map_nil, List.replicate, List.cons_append, List.nil_append, List.append_nil, List.set_cons_zero, List.set_cons_succ, bind_some, bind_none, getV_nil, getV_0s, getV_0n, getV_s, if_true, if_false, Bool.false_eq_true, ite_self, true_and, and_true, blt_len, blt_abs, blt_max, blt_min, blt_sum, blt_all, blt_any, blt_repr, blt_isi, lst_ref, len_tup, len_str, len_ref, bty_int, bty_bool, bty_str, bty_strs, bty_tup, bty_tupl, bty_lst, bty_lstl, bin_add, bin_sub, bin_mul, bin_div, bin_mod, bin_pow, bin_adds, bin_addt, bin_mult, bin_addl, cmp_lt, cmp_le, cmp_gt, cmp_ge, cmp_eq, cmp_ne, cmp_eqs, cmp_nes, cmp_eqt, cmp_net, cmp_is, cmp_isn, tru_non, tru_bl', tru_int, tru_str, tru_tup, tru_ref, neg_int, ix_tup', ix_str', ix_ref', sl_tup', sl_str', sl_ref', rev_tup', part_int, walk_tup, walk_ref, walk_str, rng_1, rng_2, set_ref, aug_add, aug_sub, rg_1, rg_2, atI_0, atI_1, atI_2, ixN3_0, ixN3_1, ixN3_2, ex_lst, DS.put_same, lstAt_put, hv.1.exc, isi_t hv.1, g19, lcQ, wipeR, e6]
  cases v with
  | tup ds =>
    obtain ⟨h1, h2⟩ := hv.2 ds rfl
    simp (config := {decide := true}) only [isTup, wpSs, DL.wpS, wpE, wpX, star_tup, star_ref, wpEs, wpEn, wpO, wpCh, wpB, wpBs, wpBo, wpI, wpT, wpTs, boolOf, startR, CTs.len, CEs.len, CEs.isNil, upto_ff, upto_tt, List.length_cons, List.length_nil, List.map_cons, List.map_nil, List.replicate, List.cons_append, List.nil_append, List.append_nil, List.set_cons_zero, List.set_cons_succ, bind_some, bind_none, getV_nil, getV_0s, getV_0n, getV_s, if_true, if_false, Bool.false_eq_true, ite_self, true_and, and_true, blt_len, blt_abs, blt_max, blt_min, blt_sum, blt_all, blt_any, blt_repr, blt_isi, lst_ref, len_tup, len_str, len_ref, bty_int, bty_bool, bty_str, bty_strs, bty_tup, bty_tupl, bty_lst, bty_lstl, bin_add, bin_sub, bin_mul, bin_div, bin_mod, bin_pow, bin_adds, bin_addt, bin_mult, bin_addl, cmp_lt, cmp_le, cmp_gt, cmp_ge, cmp_eq, cmp_ne, cmp_eqs, cmp_nes, cmp_eqt, cmp_net, cmp_is, cmp_isn, tru_non, tru_bl', tru_int, tru_str, tru_tup, tru_ref, neg_int, ix_tup', ix_str', ix_ref', sl_tup', sl_str', sl_ref', rev_tup', part_int, walk_tup, walk_ref, walk_str, rng_1, rng_2, set_ref, aug_add, aug_sub, rg_1, rg_2, atI_0, atI_1, atI_2, ixN3_0, ixN3_1, ixN3_2, ex_lst, DS.put_same, lstAt_put, Bool.not_true]
    have h0 : decide ((0 : Int) ≤ (ds.length : Int)) = true := decide_eq_true (by omega)
    simp only [h0, if_true]
    by_cases hl : ds.length ≤ 40
    · have e : decide ((ds.length : Int) ≤ 40) = true := decide_eq_true (by omega)
      simp (config := {decide := true}) only [e, wpSs, DL.wpS, wpE, wpX, star_tup, star_ref, wpEs, wpEn, wpO, wpCh, wpB, wpBs, wpBo, wpI, wpT, wpTs, boolOf, startR, CTs.len, CEs.len, CEs.isNil, upto_ff, upto_tt, List.length_cons, List.length_nil, List.map_cons, List.map_nil, List.replicate, List.cons_append, List.nil_append, List.append_nil, List.set_cons_zero, List.set_cons_succ, bind_some, bind_none, getV_nil, getV_0s, getV_0n, getV_s, if_true, if_false, Bool.false_eq_true, ite_self, true_and, and_true, blt_len, blt_abs, blt_max, blt_min, blt_sum, blt_all, blt_any, blt_repr, blt_isi, lst_ref, len_tup, len_str, len_ref, bty_int, bty_bool, bty_str, bty_strs, bty_tup, bty_tupl, bty_lst, bty_lstl, bin_add, bin_sub, bin_mul, bin_div, bin_mod, bin_pow, bin_adds, bin_addt, bin_mult, bin_addl, cmp_lt, cmp_le, cmp_gt, cmp_ge, cmp_eq, cmp_ne, cmp_eqs, cmp_nes, cmp_eqt, cmp_net, cmp_is, cmp_isn, tru_non, tru_bl', tru_int, tru_str, tru_tup, tru_ref, neg_int, ix_tup', ix_str', ix_ref', sl_tup', sl_str', sl_ref', rev_tup', part_int, walk_tup, walk_ref, walk_str, rng_1, rng_2, set_ref, aug_add, aug_sub, rg_1, rg_2, atI_0, atI_1, atI_2, ixN3_0, ixN3_1, ixN3_2, ex_lst, DS.put_same, lstAt_put, Bool.not_true]
      refine ⟨h1, lcS_map (fun d => .bl (isIntD d (-1000000) 1000000)) trivial (fun d hd R R0 r => ?_) fun p hp => ?_⟩
      · simp (config := {decide := true}) only [wpSs, DL.wpS, wpE, wpX, star_tup, star_ref, wpEs, wpEn, wpO, wpCh, wpB, wpBs, wpBo, wpI, wpT, wpTs, boolOf, startR, CTs.len, CEs.len, CEs.isNil, upto_ff, upto_tt, List.length_cons, List.length_nil, List.map_cons, List.map_nil, List.replicate, List.cons_append, List.nil_append, List.append_nil, List.set_cons_zero, List.set_cons_succ, bind_some, bind_none, getV_nil, getV_0s, getV_0n, getV_s, if_true, if_false, Bool.false_eq_true, ite_self, true_and, and_true, blt_len, blt_abs, blt_max, blt_min, blt_sum, blt_all, blt_any, blt_repr, blt_isi, lst_ref, len_tup, len_str, len_ref, bty_int, bty_bool, bty_str, bty_strs, bty_tup, bty_tupl, bty_lst, bty_lstl, bin_add, bin_sub, bin_mul, bin_div, bin_mod, bin_pow, bin_adds, bin_addt, bin_mult, bin_addl, cmp_lt, cmp_le, cmp_gt, cmp_ge, cmp_eq, cmp_ne, cmp_eqs, cmp_nes, cmp_eqt, cmp_net, cmp_is, cmp_isn, tru_non, tru_bl', tru_int, tru_str, tru_tup, tru_ref, neg_int, ix_tup', ix_str', ix_ref', sl_tup', sl_str', sl_ref', rev_tup', part_int, walk_tup, walk_ref, walk_str, rng_1, rng_2, set_ref, aug_add, aug_sub, rg_1, rg_2, atI_0, atI_1, atI_2, ixN3_0, ixN3_1, ixN3_2, ex_lst, DS.put_same, lstAt_put, e6]
        exact ⟨pw6, pw6, d, -1000000, 1000000, rfl, h2 d hd, r⟩
      · simp only [List.nil_append, lstAt_put, bind_some, boolsOf_map (fun _ _ => rfl), List.all_map]
        refine fgtQ_le (put_le hp) ?_
        rw [isRow_law ds hl] at q
        exact q
    · have e : decide ((ds.length : Int) ≤ 40) = false := decide_eq_false (by omega)
      simp (config := {decide := true}) only [e, wpSs, DL.wpS, wpE, wpX, star_tup, star_ref, wpEs, wpEn, wpO, wpCh, wpB, wpBs, wpBo, wpI, wpT, wpTs, boolOf, startR, CTs.len, CEs.len, CEs.isNil, upto_ff, upto_tt, List.length_cons, List.length_nil, List.map_cons, List.map_nil, List.replicate, List.cons_append, List.nil_append, List.append_nil, List.set_cons_zero, List.set_cons_succ, bind_some, bind_none, getV_nil, getV_0s, getV_0n, getV_s, if_true, if_false, Bool.false_eq_true, ite_self, true_and, and_true, blt_len, blt_abs, blt_max, blt_min, blt_sum, blt_all, blt_any, blt_repr, blt_isi, lst_ref, len_tup, len_str, len_ref, bty_int, bty_bool, bty_str, bty_strs, bty_tup, bty_tupl, bty_lst, bty_lstl, bin_add, bin_sub, bin_mul, bin_div, bin_mod, bin_pow, bin_adds, bin_addt, bin_mult, bin_addl, cmp_lt, cmp_le, cmp_gt, cmp_ge, cmp_eq, cmp_ne, cmp_eqs, cmp_nes, cmp_eqt, cmp_net, cmp_is, cmp_isn, tru_non, tru_bl', tru_int, tru_str, tru_tup, tru_ref, neg_int, ix_tup', ix_str', ix_ref', sl_tup', sl_str', sl_ref', rev_tup', part_int, walk_tup, walk_ref, walk_str, rng_1, rng_2, set_ref, aug_add, aug_sub, rg_1, rg_2, atI_0, atI_1, atI_2, ixN3_0, ixN3_1, ixN3_2, ex_lst, DS.put_same, lstAt_put, Bool.not_false]
      exact fgtQ_same (by simpa [isRowD, hl] using q)
  | _ => exact fgtQ_same q
theorem Vd.repr {S : DS} {d : D} (v : Vd S d) : ∃ t : Str, ∀ S', LeM S S' → ∀ K, K t → reprS d S' K := by
  rcases v with v | ⟨a, kvs, ts, rfl, m, e1, e2, e3⟩
  · obtain ⟨p, a, b, c, e⟩ := v
    refine ⟨p.shown, fun S' l K k => ?_⟩
    have hz : p.shown.length ≤ sizeLine := by
      have := shown_vz p b
      rw [sizeLine_eq]; omega
    have a' := pd_mono l a
    unfold reprS
    split
    · rename_i a0
      split
      · rename_i kvs q
        have : lstAt S' a0 = none := by unfold lstAt; rw [q]
        have a' : (match lstAt S' a0 with
          | some ds => (match pdWs (fun b => pdF 2 S' (.ref b)) ds with
            | some ps => some (.list ps)
            | none => none)
          | none => none) = some p := a'
        rw [this] at a'; cases a'
      · exact ⟨p, a', okP_ints p b, hz, by omega, k⟩
    · exact ⟨p, a', okP_ints p b, hz, by omega, k⟩
  · refine ⟨dictText (ts.map entT), fun S' l K k => ?_⟩
    unfold reprS
    simp only [l a _ m]
    exact ⟨ts, e1, e2, e3, k⟩
/-- all looks raise the class n with v -/
def cRefused (Γ : Ga) (G : GS) : FC := fun ds S Q _ => ∃ L f v n fs jf sf mf CF, ds = [.ref L, .ref f, v] ∧ lstAt S L = some fs ∧ fs.length ≤ 1000 ∧ Vd S v ∧ n ∈ Γ.exn ∧ G.sub n "FenceError" = true ∧
  (∀ d ∈ fs, ∃ g j sn m CL, d = .ref g ∧ S.lam g = some (j, sn) ∧ Γ.lc j = some (m, CL) ∧ ∀ (Q' : QE) (E' : EX), E' n v S → CL sn S Q' E') ∧
  S.lam f = some (jf, sf) ∧ Γ.lc jf = some (mf, CF) ∧ (∀ S' (Q' : QE) E', Q' (.bl true) S' → CF (.exc n v :: sf) S' Q' E') ∧ Q (.bl true) S
theorem kRefused (G : GS) (Γ : Ga) {i17 : Nat} (g17 : Γ.fn i17 = cHeard G Γ) : Keeps G Γ (fRefused i17) (cRefused Γ G) := by
  rintro ds S Q E ⟨L, f, v, n, fs, jf, sf, mf, CF, rfl, hL, hl, hv, hn, hsub, hfs, hf, hjf, hCF, q⟩
  have sz : sizeLine = 16777216 := sizeLine_eq
  simp (config := {decide := true}) only [fRefused, wpSs, DL.wpS, wpE, wpX, star_tup, star_ref, wpEs, wpEn, wpO, wpCh, wpB, wpBs, wpBo, wpI, wpT, wpTs, boolOf, startR, CTs.len, CEs.len, CEs.isNil, upto_ff, upto_tt, List.length_cons, List.length_nil, List.map_cons, List.map_nil, List.replicate, List.cons_append, List.nil_append, List.append_nil, List.set_cons_zero, List.set_cons_succ, bind_some, bind_none, getV_nil, getV_0s, getV_0n, getV_s, if_true, if_false, Bool.false_eq_true, ite_self, true_and, and_true, blt_len, blt_abs, blt_max, blt_min, blt_sum, blt_all, blt_any, blt_repr, blt_isi, lst_ref, len_tup, len_str, len_ref, bty_int, bty_bool, bty_str, bty_strs, bty_tup, bty_tupl, bty_lst, bty_lstl, bin_add, bin_sub, bin_mul, bin_div, bin_mod, bin_pow, bin_adds, bin_addt, bin_mult, bin_addl, cmp_lt, cmp_le, cmp_gt, cmp_ge, cmp_eq, cmp_ne, cmp_eqs, cmp_nes, cmp_eqt, cmp_net, cmp_is, cmp_isn, tru_non, tru_bl', tru_int, tru_str, tru_tup, tru_ref, neg_int, ix_tup', ix_str', ix_ref', sl_tup', sl_str', sl_ref', rev_tup', part_int, walk_tup, walk_ref, walk_str, rng_1, rng_2, set_ref, aug_add, aug_sub, rg_1, rg_2, atI_0, atI_1, atI_2, ixN3_0, ixN3_1, ixN3_2, ex_lst, DS.put_same, lstAt_put, hL, lcQ, wipeR, g17]
  refine ⟨by omega, lcS_map (fun _ => .exc n v) hL (fun d hd R R0 r => ?_) ?_⟩
  · obtain ⟨g, j, sn, m, CL, rfl, h1, h2, h3⟩ := hfs d hd
    simp (config := {decide := true}) only [wpSs, DL.wpS, wpE, wpX, star_tup, star_ref, wpEs, wpEn, wpO, wpCh, wpB, wpBs, wpBo, wpI, wpT, wpTs, boolOf, startR, CTs.len, CEs.len, CEs.isNil, upto_ff, upto_tt, List.length_cons, List.length_nil, List.map_cons, List.map_nil, List.replicate, List.cons_append, List.nil_append, List.append_nil, List.set_cons_zero, List.set_cons_succ, bind_some, bind_none, getV_nil, getV_0s, getV_0n, getV_s, if_true, if_false, Bool.false_eq_true, ite_self, true_and, and_true, blt_len, blt_abs, blt_max, blt_min, blt_sum, blt_all, blt_any, blt_repr, blt_isi, lst_ref, len_tup, len_str, len_ref, bty_int, bty_bool, bty_str, bty_strs, bty_tup, bty_tupl, bty_lst, bty_lstl, bin_add, bin_sub, bin_mul, bin_div, bin_mod, bin_pow, bin_adds, bin_addt, bin_mult, bin_addl, cmp_lt, cmp_le, cmp_gt, cmp_ge, cmp_eq, cmp_ne, cmp_eqs, cmp_nes, cmp_eqt, cmp_net, cmp_is, cmp_isn, tru_non, tru_bl', tru_int, tru_str, tru_tup, tru_ref, neg_int, ix_tup', ix_str', ix_ref', sl_tup', sl_str', sl_ref', rev_tup', part_int, walk_tup, walk_ref, walk_str, rng_1, rng_2, set_ref, aug_add, aug_sub, rg_1, rg_2, atI_0, atI_1, atI_2, ixN3_0, ixN3_1, ixN3_2, ex_lst, DS.put_same, lstAt_put]
    refine ⟨g, j, sn, m, CL, rfl, h1, h2, h3 _ _ ⟨hsub, fgtQ_same ?_⟩⟩
    simp only [wpSs, DL.wpS, wpE, wpX, star_tup, star_ref, wpEs, wpEn, wpO, wpCh, wpB, wpBs, wpBo, wpI, wpT, wpTs, boolOf, startR, CTs.len, CEs.len, CEs.isNil, upto_ff, upto_tt, List.length_cons, List.length_nil, List.map_cons, List.map_nil, List.replicate, List.cons_append, List.nil_append, List.append_nil, List.set_cons_zero, List.set_cons_succ, bind_some, bind_none, getV_nil, getV_0s, getV_0n, getV_s, if_true, if_false, Bool.false_eq_true, ite_self, true_and, and_true, blt_len, blt_abs, blt_max, blt_min, blt_sum, blt_all, blt_any, blt_repr, blt_isi, lst_ref, len_tup, len_str, len_ref, bty_int, bty_bool, bty_str, bty_strs, bty_tup, bty_tupl, bty_lst, bty_lstl, bin_add, bin_sub, bin_mul, bin_div, bin_mod, bin_pow, bin_adds, bin_addt, bin_mult, bin_addl, cmp_lt, cmp_le, cmp_gt, cmp_ge, cmp_eq, cmp_ne, cmp_eqs, cmp_nes, cmp_eqt, cmp_net, cmp_is, cmp_isn, tru_non, tru_bl', tru_int, tru_str, tru_tup, tru_ref, neg_int, ix_tup', ix_str', ix_ref', sl_tup', sl_str', sl_ref', rev_tup', part_int, walk_tup, walk_ref, walk_str, rng_1, rng_2, set_ref, aug_add, aug_sub, rg_1, rg_2, atI_0, atI_1, atI_2, ixN3_0, ixN3_1, ixN3_2, ex_lst, DS.put_same, lstAt_put]
    exact r
  · intro p hp
    rw [List.nil_append]
    have hfl : ((S.back S).put p (MO.lst (fs.map fun _ => D.exc n v))).lam f = some (jf, sf) := hf
    have lp : lstAt ((S.back S).put p (MO.lst (fs.map fun _ => D.exc n v))) p = some (fs.map fun _ => D.exc n v) := lstAt_put
    obtain ⟨t, ht⟩ := hv.repr
    have hle : LeM S ((S.back S).put p (MO.lst (fs.map fun _ => D.exc n v))) := (LeM.refl S).put hp
    generalize ((S.back S).put p (MO.lst (fs.map fun _ => D.exc n v))) = S1 at hfl lp hle ⊢
    refine ⟨by rw [List.length_map]; omega, lcS_map (fun _ => .bl true) lp (fun d hd R R0 r => ?_) ?_⟩
    · obtain ⟨_, _, rfl⟩ := List.mem_map.mp hd
      simp (config := {decide := true}) only [wpSs, DL.wpS, wpE, wpX, star_tup, star_ref, wpEs, wpEn, wpO, wpCh, wpB, wpBs, wpBo, wpI, wpT, wpTs, boolOf, startR, CTs.len, CEs.len, CEs.isNil, upto_ff, upto_tt, List.length_cons, List.length_nil, List.map_cons, List.map_nil, List.replicate, List.cons_append, List.nil_append, List.append_nil, List.set_cons_zero, List.set_cons_succ, bind_some, bind_none, getV_nil, getV_0s, getV_0n, getV_s, if_true, if_false, Bool.false_eq_true, ite_self, true_and, and_true, blt_len, blt_abs, blt_max, blt_min, blt_sum, blt_all, blt_any, blt_repr, blt_isi, lst_ref, len_tup, len_str, len_ref, bty_int, bty_bool, bty_str, bty_strs, bty_tup, bty_tupl, bty_lst, bty_lstl, bin_add, bin_sub, bin_mul, bin_div, bin_mod, bin_pow, bin_adds, bin_addt, bin_mult, bin_addl, cmp_lt, cmp_le, cmp_gt, cmp_ge, cmp_eq, cmp_ne, cmp_eqs, cmp_nes, cmp_eqt, cmp_net, cmp_is, cmp_isn, tru_non, tru_bl', tru_int, tru_str, tru_tup, tru_ref, neg_int, ix_tup', ix_str', ix_ref', sl_tup', sl_str', sl_ref', rev_tup', part_int, walk_tup, walk_ref, walk_str, rng_1, rng_2, set_ref, aug_add, aug_sub, rg_1, rg_2, atI_0, atI_1, atI_2, ixN3_0, ixN3_1, ixN3_2, ex_lst, DS.put_same, lstAt_put, hfl]
      refine ⟨f, rfl, by rw [hfl]; rfl, ?_⟩
      rw [hfl]
      refine ⟨mf, CF, hjf, hCF _ _ _ ?_⟩
      simp (config := {decide := true}) only [wpSs, DL.wpS, wpE, wpX, star_tup, star_ref, wpEs, wpEn, wpO, wpCh, wpB, wpBs, wpBo, wpI, wpT, wpTs, boolOf, startR, CTs.len, CEs.len, CEs.isNil, upto_ff, upto_tt, List.length_cons, List.length_nil, List.map_cons, List.map_nil, List.replicate, List.cons_append, List.nil_append, List.append_nil, List.set_cons_zero, List.set_cons_succ, bind_some, bind_none, getV_nil, getV_0s, getV_0n, getV_s, if_true, if_false, Bool.false_eq_true, ite_self, true_and, and_true, blt_len, blt_abs, blt_max, blt_min, blt_sum, blt_all, blt_any, blt_repr, blt_isi, lst_ref, len_tup, len_str, len_ref, bty_int, bty_bool, bty_str, bty_strs, bty_tup, bty_tupl, bty_lst, bty_lstl, bin_add, bin_sub, bin_mul, bin_div, bin_mod, bin_pow, bin_adds, bin_addt, bin_mult, bin_addl, cmp_lt, cmp_le, cmp_gt, cmp_ge, cmp_eq, cmp_ne, cmp_eqs, cmp_nes, cmp_eqt, cmp_net, cmp_is, cmp_isn, tru_non, tru_bl', tru_int, tru_str, tru_tup, tru_ref, neg_int, ix_tup', ix_str', ix_ref', sl_tup', sl_str', sl_ref', rev_tup', part_int, walk_tup, walk_ref, walk_str, rng_1, rng_2, set_ref, aug_add, aug_sub, rg_1, rg_2, atI_0, atI_1, atI_2, ixN3_0, ixN3_1, ixN3_2, ex_lst, DS.put_same, lstAt_put]
      refine ⟨fun n' d' e => (by cases e; exact hn), ?_⟩
      simp (config := {decide := true}) only [wpSs, DL.wpS, wpE, wpX, star_tup, star_ref, wpEs, wpEn, wpO, wpCh, wpB, wpBs, wpBo, wpI, wpT, wpTs, boolOf, startR, CTs.len, CEs.len, CEs.isNil, upto_ff, upto_tt, List.length_cons, List.length_nil, List.map_cons, List.map_nil, List.replicate, List.cons_append, List.nil_append, List.append_nil, List.set_cons_zero, List.set_cons_succ, bind_some, bind_none, getV_nil, getV_0s, getV_0n, getV_s, if_true, if_false, Bool.false_eq_true, ite_self, true_and, and_true, blt_len, blt_abs, blt_max, blt_min, blt_sum, blt_all, blt_any, blt_repr, blt_isi, lst_ref, len_tup, len_str, len_ref, bty_int, bty_bool, bty_str, bty_strs, bty_tup, bty_tupl, bty_lst, bty_lstl, bin_add, bin_sub, bin_mul, bin_div, bin_mod, bin_pow, bin_adds, bin_addt, bin_mult, bin_addl, cmp_lt, cmp_le, cmp_gt, cmp_ge, cmp_eq, cmp_ne, cmp_eqs, cmp_nes, cmp_eqt, cmp_net, cmp_is, cmp_isn, tru_non, tru_bl', tru_int, tru_str, tru_tup, tru_ref, neg_int, ix_tup', ix_str', ix_ref', sl_tup', sl_str', sl_ref', rev_tup', part_int, walk_tup, walk_ref, walk_str, rng_1, rng_2, set_ref, aug_add, aug_sub, rg_1, rg_2, atI_0, atI_1, atI_2, ixN3_0, ixN3_1, ixN3_2, ex_lst, DS.put_same, lstAt_put, isiS]
      exact ⟨n, v, rfl, hn, ht _ hle _ (ht _ hle _ (by simpa using r))⟩
    · intro p1 hp1
      rw [List.nil_append, boolsOf_map (g := fun _ => true) (fun _ _ => rfl), bind_some, List.all_map]
      have e : ((List.map (fun x => D.exc n v) fs).all (id ∘ fun x => true)) = true := by simp
      rw [e]
      exact fgtQ_mem ((LeM.put (S' := S1.back S1) hle (hle.none hp1))) q
end LK

namespace LK
open PySem DL
theorem Vp_bd {S : DS} {i : Int} {n : Nat} (h : bd n i) (l : n ≤ 11000) : Vp S (.int i) (n + 2) 0 := by
  have := h.log
  exact Vp.int (Nat.lt_succ_of_le this) (by omega)
theorem Vp_M2 {S : DS} {x : M2} {n : Nat} (h : x.Bd n) (l : n ≤ 11000) : Vp S x.toD (4 * n + 50) 2 := by
  have e := Vl.nil (S := S) (n := 0) (m := 0)
  have r1 := (Vl.cons (Vp_bd (S := S) h.a l) (Vl.cons (Vp_bd (S := S) h.b l) e)).tup
  have r2 := (Vl.cons (Vp_bd (S := S) h.c l) (Vl.cons (Vp_bd (S := S) h.d l) e)).tup
  exact (Vl.cons r1 (Vl.cons r2 e)).tup.up (by omega) (by omega)
/-- may be shown wherever -/
theorem reprAny {d : D} {n m : Nat} (h : Vp emp d n m) (l : n ≤ 100000) (l2 : m ≤ 20) : ∃ t : Str, ∀ S K, K t → reprS d S K := by
  obtain ⟨t, ht⟩ := Vd.repr (S := emp) (.inl (h.up l l2))
  exact ⟨t, fun S K => ht S (emp_le S) K⟩
theorem TyT_ints {S : DS} {is : List Int} (h : is.length ≤ 2000) : TyT S (intsD is) := ⟨Ty.tup, fun ds e => by
  cases e
  refine ⟨by rw [List.length_map, sizeLine_eq]; omega, fun d hd => ?_⟩
  obtain ⟨i, _, rfl⟩ := List.mem_map.mp hd
  exact Ty.int⟩
/-- a drawn row -/
def Row (is : List Int) : Prop := is.length ≤ 40 ∧ ∀ i ∈ is, i.natAbs ≤ 1000000
theorem Row.sm {is : List Int} (h : Row is) : Sm is := fun i hi => Nat.lt_of_le_of_lt (h.2 i hi) (by decide)
theorem Row.ok {is : List Int} (h : Row is) : isRowD (intsD is) = true := isRow_ints h.1 h.2
theorem Row.sub {is js : List Int} (h : Row is) (s : js.Sublist is) : Row js := ⟨Nat.le_trans s.length_le h.1, fun i hi => h.2 i (s.subset hi)⟩
theorem Row.rev {is : List Int} (h : Row is) : Row is.reverse := ⟨by rw [List.length_reverse]; exact h.1, fun i hi => h.2 i (List.mem_reverse.mp hi)⟩
theorem Row.ty {S : DS} {is : List Int} (h : Row is) : TyT S (intsD is) := TyT_ints (by have := h.1; omega)
theorem Row.bd {is : List Int} (h : Row is) : (M2.turns is).Bd 850 := (M2.bd_turns (n := 20) (by decide) h.sm).mono (by have := h.1; omega)
theorem Row.bdc {is : List Int} (h : Row is) : DL.bd 850 (cont is) := by rw [← turns_a]; exact h.bd.a
/-- turns_of, of a row -/
theorem use9 {is : List Int} {S : DS} {Q : QE} {E : EX} (h : Row is) (q : Q (M2.turns is).toD S) : cTurnsOf [intsD is] S Q E := ⟨_, rfl, h.ty, fun js e _ => by rw [← ints_inj e]; exact q, fun e => by rw [h.ok] at e; cases e⟩
theorem use11 {is : List Int} {S : DS} {Q : QE} {E : EX} (h : Row is) (q : Q (.int (cont is)) S) : cCont [intsD is] S Q E := ⟨_, rfl, h.ty, fun js e _ => by rw [← ints_inj e]; exact q, fun e => by rw [h.ok] at e; cases e⟩
theorem use6 {is : List Int} {S : DS} {Q : QE} {E : EX} (h : Sm is) (l : is.length ≤ 2000) (q : Q (M2.turns is).toD S) : cTurns [intsD is] S Q E := ⟨_, rfl, h, l, q⟩
theorem use10 {is : List Int} {S : DS} {Q : QE} {E : EX} (h : Row is) (q : Q (.int (cont is)) S) : cDet [intsD is] S Q E := ⟨_, rfl, h.sm, by have := h.1; omega, q⟩

theorem hide_le {S : DS} {a : Addr} : LeM (S.hide a) S := fun x o e => by
  have e : (if x = a then none else S.mem x) = some o := e
  by_cases z : x = a
  · rw [if_pos z] at e; cases e
  · rw [if_neg z] at e; exact e
theorem Vd.tyT {S : DS} {d : D} (v : Vd S d) : TyT S d := by
  rcases v with v | ⟨a, kvs, ts, rfl, m, _⟩
  · exact v.tyT (by decide)
  · refine ⟨?_, fun ds e => by cases e⟩
    unfold Ty
    simp only [tyName, m]; rfl
/-- what the lambdas do -/
def CLis (G : GS) (Γ : Ga) (n : Str) : FC := fun ds S Q _ => ∃ m d, ds = [.exc m d] ∧ m ∈ Γ.exn ∧ Q (.bl (G.sub m n)) S
end LK

namespace LK
open PySem DL
/-- turns of a row, whatever its size -/
def cTurnsG : FC := fun ds S Q _ => ∃ is n, ds = [intsD is] ∧ 1 ≤ n ∧ (∀ i ∈ is, bd n i) ∧ (n + 1) * is.length + n + 1 < 1000000 ∧ Q (M2.turns is).toD S
theorem kTurnsG (G : GS) (Γ : Ga) {i4 i5 v0 : Nat} (g0 : Γ.gv v0 = M2.one.toD) (g4 : Γ.fn i4 = cProd) (g5 : Γ.fn i5 = cTurn) : Keeps G Γ (fTurns i4 i5 v0) cTurnsG := by
  rintro ds S Q E ⟨is, n, rfl, hn, hs, hl, q⟩
  simp (config := {decide := true}) only [fTurns, intsD, wpSs, DL.wpS, wpE, wpX, star_tup, star_ref, wpEs, wpEn, wpO, wpCh, wpB, wpBs, wpBo, wpI, wpT, wpTs, boolOf, startR, CTs.len, CEs.len, CEs.isNil, upto_ff, upto_tt, List.length_cons, List.length_nil, List.map_cons, List.map_nil, List.replicate, List.cons_append, List.nil_append, List.append_nil, List.set_cons_zero, List.set_cons_succ, bind_some, bind_none, getV_nil, getV_0s, getV_0n, getV_s, if_true, if_false, Bool.false_eq_true, ite_self, true_and, and_true, blt_len, blt_abs, blt_max, blt_min, blt_sum, blt_all, blt_any, blt_repr, blt_isi, lst_ref, len_tup, len_str, len_ref, bty_int, bty_bool, bty_str, bty_strs, bty_tup, bty_tupl, bty_lst, bty_lstl, bin_add, bin_sub, bin_mul, bin_div, bin_mod, bin_pow, bin_adds, bin_addt, bin_mult, bin_addl, cmp_lt, cmp_le, cmp_gt, cmp_ge, cmp_eq, cmp_ne, cmp_eqs, cmp_nes, cmp_eqt, cmp_net, cmp_is, cmp_isn, tru_non, tru_bl', tru_int, tru_str, tru_tup, tru_ref, neg_int, ix_tup', ix_str', ix_ref', sl_tup', sl_str', sl_ref', rev_tup', part_int, walk_tup, walk_ref, walk_str, rng_1, rng_2, set_ref, aug_add, aug_sub, rg_1, rg_2, atI_0, atI_1, atI_2, ixN3_0, ixN3_1, ixN3_2, ex_lst, DS.put_same, lstAt_put, g0]
  refine forS_ind (fun i ρ S' => S' = S ∧ ρ = [some (intsD is), some (M2.turns (is.take i)).toD, none]) (fun i d ρ S' hd hp => ⟨trivial, fun K hK => ?_⟩) (fun ρ S' hp => ⟨trivial, ?_⟩) ⟨rfl, rfl⟩
  · obtain ⟨rfl, rfl⟩ := hp
    rw [List.getElem?_map] at hd
    cases e : is[i]? with
    | none => rw [e] at hd; cases hd
    | some m =>
      rw [e] at hd; cases hd
      simp (config := {decide := true}) only [wpSs, DL.wpS, wpE, wpX, star_tup, star_ref, wpEs, wpEn, wpO, wpCh, wpB, wpBs, wpBo, wpI, wpT, wpTs, boolOf, startR, CTs.len, CEs.len, CEs.isNil, upto_ff, upto_tt, List.length_cons, List.length_nil, List.map_cons, List.map_nil, List.replicate, List.cons_append, List.nil_append, List.append_nil, List.set_cons_zero, List.set_cons_succ, bind_some, bind_none, getV_nil, getV_0s, getV_0n, getV_s, if_true, if_false, Bool.false_eq_true, ite_self, true_and, and_true, blt_len, blt_abs, blt_max, blt_min, blt_sum, blt_all, blt_any, blt_repr, blt_isi, lst_ref, len_tup, len_str, len_ref, bty_int, bty_bool, bty_str, bty_strs, bty_tup, bty_tupl, bty_lst, bty_lstl, bin_add, bin_sub, bin_mul, bin_div, bin_mod, bin_pow, bin_adds, bin_addt, bin_mult, bin_addl, cmp_lt, cmp_le, cmp_gt, cmp_ge, cmp_eq, cmp_ne, cmp_eqs, cmp_nes, cmp_eqt, cmp_net, cmp_is, cmp_isn, tru_non, tru_bl', tru_int, tru_str, tru_tup, tru_ref, neg_int, ix_tup', ix_str', ix_ref', sl_tup', sl_str', sl_ref', rev_tup', part_int, walk_tup, walk_ref, walk_str, rng_1, rng_2, set_ref, aug_add, aug_sub, rg_1, rg_2, atI_0, atI_1, atI_2, ixN3_0, ixN3_1, ixN3_2, ex_lst, DS.put_same, lstAt_put, g4, g5]
      have hm : m ∈ is := List.mem_of_getElem? e
      have li : i < is.length := (List.getElem?_eq_some_iff.mp e).1
      refine ⟨m, rfl, M2.turns (is.take i), M2.turn m, _, _, rfl, M2.bd_turns hn (fun j hj => hs j (List.mem_of_mem_take hj)), M2.bd_turn (hs m hm) hn, ?_, hK _ _ (fgt_of (.cons (.cons (.cons .nil (.inr rfl)) (.inl rfl)) (.inl rfl)) (LeS.refl _) ⟨rfl, ?_⟩)⟩
      · rw [List.length_take]
        have := Nat.mul_le_mul_left (n + 1) (Nat.min_le_right i is.length)
        omega
      · rw [take_snoc e, M2.turns_append]
        simp [M2.turns, M2.one_mul]
  · obtain ⟨rfl, rfl⟩ := hp
    rw [List.length_map, List.take_length]
    simp (config := {decide := true}) only [wpSs, DL.wpS, wpE, wpX, star_tup, star_ref, wpEs, wpEn, wpO, wpCh, wpB, wpBs, wpBo, wpI, wpT, wpTs, boolOf, startR, CTs.len, CEs.len, CEs.isNil, upto_ff, upto_tt, List.length_cons, List.length_nil, List.map_cons, List.map_nil, List.replicate, List.cons_append, List.nil_append, List.append_nil, List.set_cons_zero, List.set_cons_succ, bind_some, bind_none, getV_nil, getV_0s, getV_0n, getV_s, if_true, if_false, Bool.false_eq_true, ite_self, true_and, and_true, blt_len, blt_abs, blt_max, blt_min, blt_sum, blt_all, blt_any, blt_repr, blt_isi, lst_ref, len_tup, len_str, len_ref, bty_int, bty_bool, bty_str, bty_strs, bty_tup, bty_tupl, bty_lst, bty_lstl, bin_add, bin_sub, bin_mul, bin_div, bin_mod, bin_pow, bin_adds, bin_addt, bin_mult, bin_addl, cmp_lt, cmp_le, cmp_gt, cmp_ge, cmp_eq, cmp_ne, cmp_eqs, cmp_nes, cmp_eqt, cmp_net, cmp_is, cmp_isn, tru_non, tru_bl', tru_int, tru_str, tru_tup, tru_ref, neg_int, ix_tup', ix_str', ix_ref', sl_tup', sl_str', sl_ref', rev_tup', part_int, walk_tup, walk_ref, walk_str, rng_1, rng_2, set_ref, aug_add, aug_sub, rg_1, rg_2, atI_0, atI_1, atI_2, ixN3_0, ixN3_1, ixN3_2, ex_lst, DS.put_same, lstAt_put]
    exact fgtQ_same q
theorem kLTurnsG (G : GS) (Γ : Ga) {i21 : Nat} (g21 : Γ.fn i21 = cProd) : Keeps G Γ (fLTurns i21) cTurnsG := by
  rintro ds S Q E ⟨is, n, rfl, hn, hs, hl, q⟩
  simp (config := {decide := true}) only [fLTurns, intsD, wpSs, DL.wpS, wpE, wpX, star_tup, star_ref, wpEs, wpEn, wpO, wpCh, wpB, wpBs, wpBo, wpI, wpT, wpTs, boolOf, startR, CTs.len, CEs.len, CEs.isNil, upto_ff, upto_tt, List.length_cons, List.length_nil, List.map_cons, List.map_nil, List.replicate, List.cons_append, List.nil_append, List.append_nil, List.set_cons_zero, List.set_cons_succ, bind_some, bind_none, getV_nil, getV_0s, getV_0n, getV_s, if_true, if_false, Bool.false_eq_true, ite_self, true_and, and_true, blt_len, blt_abs, blt_max, blt_min, blt_sum, blt_all, blt_any, blt_repr, blt_isi, lst_ref, len_tup, len_str, len_ref, bty_int, bty_bool, bty_str, bty_strs, bty_tup, bty_tupl, bty_lst, bty_lstl, bin_add, bin_sub, bin_mul, bin_div, bin_mod, bin_pow, bin_adds, bin_addt, bin_mult, bin_addl, cmp_lt, cmp_le, cmp_gt, cmp_ge, cmp_eq, cmp_ne, cmp_eqs, cmp_nes, cmp_eqt, cmp_net, cmp_is, cmp_isn, tru_non, tru_bl', tru_int, tru_str, tru_tup, tru_ref, neg_int, ix_tup', ix_str', ix_ref', sl_tup', sl_str', sl_ref', rev_tup', part_int, walk_tup, walk_ref, walk_str, rng_1, rng_2, set_ref, aug_add, aug_sub, rg_1, rg_2, atI_0, atI_1, atI_2, ixN3_0, ixN3_1, ixN3_2, ex_lst, DS.put_same, lstAt_put, g21]
  refine forS_ind (fun i ρ S' => S' = S ∧ ρ = [some (intsD is), some (M2.turns (is.take i)).toD, none]) (fun i d ρ S' hd hp => ⟨trivial, fun K hK => ?_⟩) (fun ρ S' hp => ⟨trivial, ?_⟩) ⟨rfl, rfl⟩
  · obtain ⟨rfl, rfl⟩ := hp
    rw [List.getElem?_map] at hd
    cases e : is[i]? with
    | none => rw [e] at hd; cases hd
    | some m =>
      rw [e] at hd; cases hd
      simp (config := {decide := true}) only [wpSs, DL.wpS, wpE, wpX, star_tup, star_ref, wpEs, wpEn, wpO, wpCh, wpB, wpBs, wpBo, wpI, wpT, wpTs, boolOf, startR, CTs.len, CEs.len, CEs.isNil, upto_ff, upto_tt, List.length_cons, List.length_nil, List.map_cons, List.map_nil, List.replicate, List.cons_append, List.nil_append, List.append_nil, List.set_cons_zero, List.set_cons_succ, bind_some, bind_none, getV_nil, getV_0s, getV_0n, getV_s, if_true, if_false, Bool.false_eq_true, ite_self, true_and, and_true, blt_len, blt_abs, blt_max, blt_min, blt_sum, blt_all, blt_any, blt_repr, blt_isi, lst_ref, len_tup, len_str, len_ref, bty_int, bty_bool, bty_str, bty_strs, bty_tup, bty_tupl, bty_lst, bty_lstl, bin_add, bin_sub, bin_mul, bin_div, bin_mod, bin_pow, bin_adds, bin_addt, bin_mult, bin_addl, cmp_lt, cmp_le, cmp_gt, cmp_ge, cmp_eq, cmp_ne, cmp_eqs, cmp_nes, cmp_eqt, cmp_net, cmp_is, cmp_isn, tru_non, tru_bl', tru_int, tru_str, tru_tup, tru_ref, neg_int, ix_tup', ix_str', ix_ref', sl_tup', sl_str', sl_ref', rev_tup', part_int, walk_tup, walk_ref, walk_str, rng_1, rng_2, set_ref, aug_add, aug_sub, rg_1, rg_2, atI_0, atI_1, atI_2, ixN3_0, ixN3_1, ixN3_2, ex_lst, DS.put_same, lstAt_put]
      have hm : m ∈ is := List.mem_of_getElem? e
      have li : i < is.length := (List.getElem?_eq_some_iff.mp e).1
      refine ⟨M2.turns (is.take i), M2.turn m, _, _, rfl, M2.bd_turns hn (fun j hj => hs j (List.mem_of_mem_take hj)), M2.bd_turn (hs m hm) hn, ?_, hK _ _ (fgt_of (.cons (.cons (.cons .nil (.inr rfl)) (.inl rfl)) (.inl rfl)) (LeS.refl _) ⟨rfl, ?_⟩)⟩
      · rw [List.length_take]
        have := Nat.mul_le_mul_left (n + 1) (Nat.min_le_right i is.length)
        omega
      · rw [take_snoc e, M2.turns_append]
        simp [M2.turns, M2.one_mul]
  · obtain ⟨rfl, rfl⟩ := hp
    rw [List.length_map, List.take_length]
    simp (config := {decide := true}) only [wpSs, DL.wpS, wpE, wpX, star_tup, star_ref, wpEs, wpEn, wpO, wpCh, wpB, wpBs, wpBo, wpI, wpT, wpTs, boolOf, startR, CTs.len, CEs.len, CEs.isNil, upto_ff, upto_tt, List.length_cons, List.length_nil, List.map_cons, List.map_nil, List.replicate, List.cons_append, List.nil_append, List.append_nil, List.set_cons_zero, List.set_cons_succ, bind_some, bind_none, getV_nil, getV_0s, getV_0n, getV_s, if_true, if_false, Bool.false_eq_true, ite_self, true_and, and_true, blt_len, blt_abs, blt_max, blt_min, blt_sum, blt_all, blt_any, blt_repr, blt_isi, lst_ref, len_tup, len_str, len_ref, bty_int, bty_bool, bty_str, bty_strs, bty_tup, bty_tupl, bty_lst, bty_lstl, bin_add, bin_sub, bin_mul, bin_div, bin_mod, bin_pow, bin_adds, bin_addt, bin_mult, bin_addl, cmp_lt, cmp_le, cmp_gt, cmp_ge, cmp_eq, cmp_ne, cmp_eqs, cmp_nes, cmp_eqt, cmp_net, cmp_is, cmp_isn, tru_non, tru_bl', tru_int, tru_str, tru_tup, tru_ref, neg_int, ix_tup', ix_str', ix_ref', sl_tup', sl_str', sl_ref', rev_tup', part_int, walk_tup, walk_ref, walk_str, rng_1, rng_2, set_ref, aug_add, aug_sub, rg_1, rg_2, atI_0, atI_1, atI_2, ixN3_0, ixN3_1, ixN3_2, ex_lst, DS.put_same, lstAt_put]
    exact fgtQ_same q
/-! squares as data -/
def M2.pd (x : M2) : PyData := .tuple [.tuple [.int x.a, .int x.b], .tuple [.int x.c, .int x.d]]
theorem pd_M2 {S : DS} (x : M2) : pd S x.toD = some (M2.pd x) := rfl
theorem M2.shaped (x : M2) : SeqAt.shaped (M2.pd x) = true := rfl
theorem M2.eqv (x y : M2) : PyData.eqv (M2.pd x) (M2.pd y) = decide (x = y) := by
  obtain ⟨a, b, c, d⟩ := x
  obtain ⟨a', b', c', d'⟩ := y
  rw [Bool.eq_iff_iff]
  simp [M2.pd, PyData.eqv, PyData.eqvAll, and_assoc]
theorem cmp_M2 {S : DS} {x y : M2} {K : Bool → Prop} (h : K (decide (x = y))) : cmpS .Eq x.toD y.toD S K := by
  show cmpS .Eq (.tup _) _ S K
  rw [cmp_eqt]
  exact ⟨M2.pd x, M2.pd y, pd_M2 x, pd_M2 y, M2.shaped x, M2.shaped y, by rw [M2.eqv]; exact h⟩
theorem cmp_bl {S : DS} {x y : Bool} {K : Bool → Prop} (h : K (x == y)) : cmpS .Eq (.bl x) (.bl y) S K := ⟨.bool x, .bool y, rfl, rfl, rfl, rfl, h⟩
theorem cmp_neb {S : DS} {x y : Bool} {K : Bool → Prop} (h : K (!(x == y))) : cmpS .NotEq (.bl x) (.bl y) S K := ⟨.bool x, .bool y, rfl, rfl, rfl, rfl, h⟩
/-- an int that may be shown is not too great -/
theorem Vp.bdInt {S : DS} {i : Int} {n m : Nat} (v : Vp S (.int i) n m) : bd 12000 i := by
  obtain ⟨p, a, b, _, _⟩ := v
  cases a
  have b : i.natAbs.log2 < 12000 := b
  unfold bd
  by_cases h : i.natAbs = 0
  · rw [h]; exact Nat.pow_pos (by decide)
  · exact (Nat.log2_lt h).mp b
theorem Vd.tup {S : DS} {xs : List D} (v : Vd S (.tup xs)) : Vp S (.tup xs) 100000 20 := by
  rcases v with v | ⟨_, _, _, e, _⟩
  · exact v
  · cases e
theorem Vd.isB {S : DS} {d : D} (v : Vd S d) : Ty S d := v.tyT.1
def cIsBool : FC := fun ds S Q _ => ∃ a b, ds = [.bl a, .bl b] ∧ Q (.bl (a == b)) S
def cBent : FC := fun ds S Q _ => ∃ a v n, ds = [.ref a, v] ∧ (v = .non ∨ (Pi 1 v ∧ ∃ w, Vp emp v w 1 ∧ w ≤ 5000)) ∧ Pot S a (n + 4) ∧ ∀ d S', Fr a S S' → Pot S' a n → Vd (S'.hide a) d → Q d S'
theorem kBent (G : GS) (Γ : Ga) {i14 i15 i18 i20 : Nat} (g14 : Γ.fn i14 = cTake) (g15 : Γ.fn i15 = cOf) (g18 : Γ.fn i18 = cOdd) (g20 : Γ.fn i20 = CB 0) : Keeps G Γ (fBent i14 i15 i18 i20) cBent := by
  rintro ds S Q E ⟨a, v, n, rfl, hv, hp, q⟩
  rcases hv with rfl | ⟨hpi, w, hw, hl⟩
  · simp (config := {decide := true}) only [fBent, wpSs, DL.wpS, wpE, wpX, star_tup, star_ref, wpEs, wpEn, wpO, wpCh, wpB, wpBs, wpBo, wpI, wpT, wpTs, boolOf, startR, CTs.len, CEs.len, CEs.isNil, upto_ff, upto_tt, List.length_cons, List.length_nil, List.map_cons, List.map_nil, List.replicate, List.cons_append, List.nil_append, List.append_nil, List.set_cons_zero, List.set_cons_succ, bind_some, bind_none, getV_nil, getV_0s, getV_0n, getV_s, if_true, if_false, Bool.false_eq_true, ite_self, true_and, and_true, blt_len, blt_abs, blt_max, blt_min, blt_sum, blt_all, blt_any, blt_repr, blt_isi, lst_ref, len_tup, len_str, len_ref, bty_int, bty_bool, bty_str, bty_strs, bty_tup, bty_tupl, bty_lst, bty_lstl, bin_add, bin_sub, bin_mul, bin_div, bin_mod, bin_pow, bin_adds, bin_addt, bin_mult, bin_addl, cmp_lt, cmp_le, cmp_gt, cmp_ge, cmp_eq, cmp_ne, cmp_eqs, cmp_nes, cmp_eqt, cmp_net, cmp_is, cmp_isn, tru_non, tru_bl', tru_int, tru_str, tru_tup, tru_ref, neg_int, ix_tup', ix_str', ix_ref', sl_tup', sl_str', sl_ref', rev_tup', part_int, walk_tup, walk_ref, walk_str, rng_1, rng_2, set_ref, aug_add, aug_sub, rg_1, rg_2, atI_0, atI_1, atI_2, ixN3_0, ixN3_1, ixN3_2, ex_lst, DS.put_same, lstAt_put, g18, (Ty.non (S := S)).exc, isi_i (Ty.non (S := S)), isi_b (Ty.non (S := S)), isi_t (Ty.non (S := S)), isi_s (Ty.non (S := S)), isTup, isBl, isInt0, isStrD]
    exact ⟨a, n, rfl, hp.less (by omega), fun d S' fr pt vd => fgtQ_to (by rw [fr.back]; exact q d S' fr pt vd)⟩
  · exact kBent_1 G Γ g14 g15 g20 _ S Q E ⟨a, v, n, w, rfl, hpi, hw, hl, hp, fun d S' fr pt vd => q d S' fr pt (.inl (vd.up (by omega) (by decide)))⟩
theorem kIsBool (G : GS) (Γ : Ga) : Keeps G Γ ⟨⟨[], ["told", "due"], [], false⟩, ["told", "due"], (.cons (.ret (.bo .And (.more (.callB "isinstance" (.cons (.var 0) (.cons (.ty "bool") .nil))) (.one (.cmp .Eq (.var 0) (.var 1)))))) .nil)⟩ cIsBool := by
  rintro ds S Q E ⟨a, b, rfl, q⟩
  simp (config := {decide := true}) only [wpSs, DL.wpS, wpE, wpX, star_tup, star_ref, wpEs, wpEn, wpO, wpCh, wpB, wpBs, wpBo, wpI, wpT, wpTs, boolOf, startR, CTs.len, CEs.len, CEs.isNil, upto_ff, upto_tt, List.length_cons, List.length_nil, List.map_cons, List.map_nil, List.replicate, List.cons_append, List.nil_append, List.append_nil, List.set_cons_zero, List.set_cons_succ, bind_some, bind_none, getV_nil, getV_0s, getV_0n, getV_s, if_true, if_false, Bool.false_eq_true, ite_self, true_and, and_true, blt_len, blt_abs, blt_max, blt_min, blt_sum, blt_all, blt_any, blt_repr, blt_isi, lst_ref, len_tup, len_str, len_ref, bty_int, bty_bool, bty_str, bty_strs, bty_tup, bty_tupl, bty_lst, bty_lstl, bin_add, bin_sub, bin_mul, bin_div, bin_mod, bin_pow, bin_adds, bin_addt, bin_mult, bin_addl, cmp_lt, cmp_le, cmp_gt, cmp_ge, cmp_eq, cmp_ne, cmp_eqs, cmp_nes, cmp_eqt, cmp_net, cmp_is, cmp_isn, tru_non, tru_bl', tru_int, tru_str, tru_tup, tru_ref, neg_int, ix_tup', ix_str', ix_ref', sl_tup', sl_str', sl_ref', rev_tup', part_int, walk_tup, walk_ref, walk_str, rng_1, rng_2, set_ref, aug_add, aug_sub, rg_1, rg_2, atI_0, atI_1, atI_2, ixN3_0, ixN3_1, ixN3_2, ex_lst, DS.put_same, lstAt_put, (Ty.bl (S := S) (i := a)).exc, isi_b (Ty.bl (S := S) (i := a)), isBl]
  exact cmp_bl (fgtQ_same q)
end LK

namespace LK
open PySem DL
def fTimesC (c : Bool) : FnCk := ⟨⟨[], ["one", "other", "found", "row", "at"], [], false⟩, ["one", "other"],
  (.cons (.asg (.name 2 false) (.lst .nil))
  (.cons (.for_ (.name 3 c) (.val (.var 0))
  (.cons (.expr (.met "append" (.var 2) (.cons (.callT "tuple" (.cons (.lc (.name 4 false) (.rng (.cons (.int 2) .nil)) .none (.bin .Add (.bin .Mult (.ix (.var 3) (.int 0)) (.ix (.ix (.var 1) (.int 0)) (.var 4))) (.bin .Mult (.ix (.var 3) (.int 1)) (.ix (.ix (.var 1) (.int 1)) (.var 4)))) [("at", 4)]) .nil)) .nil)))
  .nil))
  (.cons (.ret (.callT "tuple" (.cons (.var 2) .nil)))
  .nil)))⟩
theorem kTimesC (c : Bool) (G : GS) (Γ : Ga) : Keeps G Γ (fTimesC c) cProd := by
  rintro ds S Q E ⟨x, y, n, m, rfl, hx, hy, l, q⟩
  simp (config := {decide := true}) only [fTimesC, M2.toD, wpSs, DL.wpS, wpE, wpX, star_tup, star_ref, wpEs, wpEn, wpO, wpCh, wpB, wpBs, wpBo, wpI, wpT, wpTs, boolOf, startR, CTs.len, CEs.len, CEs.isNil, upto_ff, upto_tt, List.length_cons, List.length_nil, List.map_cons, List.map_nil, List.replicate, List.cons_append, List.nil_append, List.append_nil, List.set_cons_zero, List.set_cons_succ, bind_some, bind_none, getV_nil, getV_0s, getV_0n, getV_s, if_true, if_false, Bool.false_eq_true, ite_self, true_and, and_true, blt_len, blt_abs, blt_max, blt_min, blt_sum, blt_all, blt_any, blt_repr, blt_isi, lst_ref, len_tup, len_str, len_ref, bty_int, bty_bool, bty_str, bty_strs, bty_tup, bty_tupl, bty_lst, bty_lstl, bin_add, bin_sub, bin_mul, bin_div, bin_mod, bin_pow, bin_adds, bin_addt, bin_mult, bin_addl, cmp_lt, cmp_le, cmp_gt, cmp_ge, cmp_eq, cmp_ne, cmp_eqs, cmp_nes, cmp_eqt, cmp_net, cmp_is, cmp_isn, tru_non, tru_bl', tru_int, tru_str, tru_tup, tru_ref, neg_int, ix_tup', ix_str', ix_ref', sl_tup', sl_str', sl_ref', rev_tup', part_int, walk_tup, walk_ref, walk_str, rng_1, rng_2, set_ref, aug_add, aug_sub, rg_1, rg_2, atI_0, atI_1, atI_2, ixN3_0, ixN3_1, ixN3_2, ex_lst, DS.put_same, lstAt_put]
  intro p hp
  refine forS_ind (fun i ρ S' => ρ = [some (M2.toD x), some (M2.toD y), some (.ref p), none, none] ∧ LeM S S' ∧ S'.mem p = some (.lst ([D.tup [.int (x.mul y).a, .int (x.mul y).b], D.tup [.int (x.mul y).c, .int (x.mul y).d]].take i))) (fun i d ρ S' hd h => ⟨trivial, fun K hK => ?_⟩) (fun ρ S' h => ⟨trivial, ?_⟩) ⟨rfl, (LeM.refl S).put hp, by rw [DS.put_same]; rfl⟩
  · obtain ⟨rfl, le, hm⟩ := h
    have hm' : (S'.upto c).mem p = _ := (congrFun DS.upto_mem p).trans hm
    obtain ⟨u, v, rfl, hu, hv, hlen, ht⟩ : ∃ u v, d = .tup [.int u, .int v] ∧ bd n u ∧ bd n v ∧ ([D.tup [.int (x.mul y).a, .int (x.mul y).b], D.tup [.int (x.mul y).c, .int (x.mul y).d]].take i).length < sizeLine ∧
        [D.tup [.int (x.mul y).a, .int (x.mul y).b], D.tup [.int (x.mul y).c, .int (x.mul y).d]].take (i + 1) = [D.tup [.int (x.mul y).a, .int (x.mul y).b], D.tup [.int (x.mul y).c, .int (x.mul y).d]].take i ++ [.tup [.int (u * y.a + v * y.c), .int (u * y.b + v * y.d)]] := by
      rw [sizeLine_eq]
      match i, hd with
      | 0, hd => cases hd; exact ⟨_, _, rfl, hx.a, hx.b, by simp, rfl⟩
      | 1, hd => cases hd; exact ⟨_, _, rfl, hx.c, hx.d, by simp, rfl⟩
      | i + 2, hd => cases hd
    have r2 : rngD 0 1 (Int.toNat 2) = [.int 0, .int 1] := rfl
    simp (config := {decide := true}) only [M2.toD, wpSs, DL.wpS, wpE, wpX, star_tup, star_ref, wpEs, wpEn, wpO, wpCh, wpB, wpBs, wpBo, wpI, wpT, wpTs, boolOf, startR, CTs.len, CEs.len, CEs.isNil, upto_ff, upto_tt, List.length_cons, List.length_nil, List.map_cons, List.map_nil, List.replicate, List.cons_append, List.nil_append, List.append_nil, List.set_cons_zero, List.set_cons_succ, bind_some, bind_none, getV_nil, getV_0s, getV_0n, getV_s, if_true, if_false, Bool.false_eq_true, ite_self, true_and, and_true, blt_len, blt_abs, blt_max, blt_min, blt_sum, blt_all, blt_any, blt_repr, blt_isi, lst_ref, len_tup, len_str, len_ref, bty_int, bty_bool, bty_str, bty_strs, bty_tup, bty_tupl, bty_lst, bty_lstl, bin_add, bin_sub, bin_mul, bin_div, bin_mod, bin_pow, bin_adds, bin_addt, bin_mult, bin_addl, cmp_lt, cmp_le, cmp_gt, cmp_ge, cmp_eq, cmp_ne, cmp_eqs, cmp_nes, cmp_eqt, cmp_net, cmp_is, cmp_isn, tru_non, tru_bl', tru_int, tru_str, tru_tup, tru_ref, neg_int, ix_tup', ix_str', ix_ref', sl_tup', sl_str', sl_ref', rev_tup', part_int, walk_tup, walk_ref, walk_str, rng_1, rng_2, set_ref, aug_add, aug_sub, rg_1, rg_2, atI_0, atI_1, atI_2, ixN3_0, ixN3_1, ixN3_2, ex_lst, DS.put_same, lstAt_put, met_append hm', lcQ, wipeR, r2, lcS]
    refine ⟨by constructor <;> decide, mulOk_bd hu hy.a l, mulOk_bd hv hy.c l, mulOk_bd hu hy.b l, mulOk_bd hv hy.d l, fun p1 hp1 => ?_⟩
    have hp1 : S'.mem p1 = none := (congrFun DS.upto_mem p1).symm.trans hp1
    have ne : p ≠ p1 := fun z => by subst z; rw [hm] at hp1; cases hp1
    rw [mets_append (xs := List.take i _) (by rw [DS.put_ne ne]; exact hm')]
    refine ⟨hlen, hK _ _ (fgt_of (.cons (.cons (.cons (.cons (.cons .nil (.inl rfl)) (.inr rfl)) (.inl rfl)) (.inl rfl)) (.inl rfl)) (LeS.refl _) ⟨rfl, ?_, ?_⟩)⟩
    · exact LeM.put (LeM.put (S' := ((S'.upto c).back (S'.upto c))) (fun b o e => (congrFun DS.upto_mem b).trans (le b o e)) (le.none hp1)) hp
    · rw [DS.put_same, ht]
  · obtain ⟨rfl, le, hm⟩ := h
    simp (config := {decide := true}) only [M2.toD, wpSs, DL.wpS, wpE, wpX, star_tup, star_ref, wpEs, wpEn, wpO, wpCh, wpB, wpBs, wpBo, wpI, wpT, wpTs, boolOf, startR, CTs.len, CEs.len, CEs.isNil, upto_ff, upto_tt, List.length_cons, List.length_nil, List.map_cons, List.map_nil, List.replicate, List.cons_append, List.nil_append, List.append_nil, List.set_cons_zero, List.set_cons_succ, bind_some, bind_none, getV_nil, getV_0s, getV_0n, getV_s, if_true, if_false, Bool.false_eq_true, ite_self, true_and, and_true, blt_len, blt_abs, blt_max, blt_min, blt_sum, blt_all, blt_any, blt_repr, blt_isi, lst_ref, len_tup, len_str, len_ref, bty_int, bty_bool, bty_str, bty_strs, bty_tup, bty_tupl, bty_lst, bty_lstl, bin_add, bin_sub, bin_mul, bin_div, bin_mod, bin_pow, bin_adds, bin_addt, bin_mult, bin_addl, cmp_lt, cmp_le, cmp_gt, cmp_ge, cmp_eq, cmp_ne, cmp_eqs, cmp_nes, cmp_eqt, cmp_net, cmp_is, cmp_isn, tru_non, tru_bl', tru_int, tru_str, tru_tup, tru_ref, neg_int, ix_tup', ix_str', ix_ref', sl_tup', sl_str', sl_ref', rev_tup', part_int, walk_tup, walk_ref, walk_str, rng_1, rng_2, set_ref, aug_add, aug_sub, rg_1, rg_2, atI_0, atI_1, atI_2, ixN3_0, ixN3_1, ixN3_2, ex_lst, DS.put_same, lstAt_put, lstAt_lst hm]
    refine fgtQ_mem le q
/-! ### pairs as data -/
def pairP (p : Int × Int) : PyData := .tuple [.int p.1, .int p.2]
theorem pd_pair {S : DS} (p : Int × Int) : pd S (pairD p) = some (pairP p) := rfl
theorem pdWs_pairs {rf : Addr → Option PyData} : ∀ ws : List (Int × Int), pdWs rf (ws.map pairD) = some (ws.map pairP)
  | [] => rfl
  | w :: ws => by
    rw [List.map_cons]
    unfold pdWs
    rw [pdWs_pairs ws]
    rfl
theorem lay_pairs : ∀ ws : List (Int × Int), PyData.canLayAll0 (ws.map pairP) = true
  | [] => rfl
  | w :: ws => by
    show ((pairP w).canLay0 && PyData.canLayAll0 (ws.map pairP)) = true
    rw [lay_pairs ws]; rfl
theorem depth_pairs : ∀ ws : List (Int × Int), PyData.depthAll (ws.map pairP) ≤ 1
  | [] => Nat.zero_le _
  | w :: ws => by
    show max (pairP w).depth (PyData.depthAll (ws.map pairP)) ≤ 1
    have := depth_pairs ws
    have e : (pairP w).depth = 1 := rfl
    omega
theorem shaped_pair (p : Int × Int) : SeqAt.shaped (pairP p) = true := rfl
theorem shaped_pairs (ws : List (Int × Int)) : SeqAt.shaped (.list (ws.map pairP)) = true := by
  unfold SeqAt.shaped
  have h1 : (PyData.list (ws.map pairP)).canLay0 = true := lay_pairs ws
  have h2 : (PyData.list (ws.map pairP)).depth ≤ 64 := by
    show PyData.depthAll (ws.map pairP) + 1 ≤ 64
    have := depth_pairs ws
    omega
  rw [h1, decide_eq_true h2]; rfl
theorem pd_pairs {S : DS} {w : Addr} {ws : List (Int × Int)} (h : S.mem w = some (.lst (ws.map pairD))) : pd S (.ref w) = some (.list (ws.map pairP)) := pd_lst (lstAt_lst h) (pdWs_pairs ws)
theorem eqv_pair (p q : Int × Int) : PyData.eqv (pairP p) (pairP q) = decide (p = q) := by
  obtain ⟨a, b⟩ := p
  obtain ⟨c, d⟩ := q
  rw [Bool.eq_iff_iff]
  simp [pairP, PyData.eqv, PyData.eqvAll]
theorem cmp_pairs_nil {S : DS} {w p : Addr} {ws : List (Int × Int)} {K : Bool → Prop} (h : S.mem w = some (.lst (ws.map pairD))) (g : S.mem p = some (.lst [])) (k : K (!ws.isEmpty)) : cmpS .NotEq (.ref w) (.ref p) S K := by
  refine ⟨.list (ws.map pairP), .list [], pd_pairs h, pd_lst (lstAt_lst g) rfl, shaped_pairs ws, rfl, ?_⟩
  have e : PyData.eqv (.list (ws.map pairP)) (.list []) = ws.isEmpty := by cases ws <;> rfl
  rw [e]; exact k
theorem cmp_pair_ne {S : DS} {p q : Int × Int} {K : Bool → Prop} (k : K (!decide (p = q))) : cmpS .NotEq (pairD p) (pairD q) S K := by
  refine ⟨pairP p, pairP q, rfl, rfl, rfl, rfl, ?_⟩
  rw [eqv_pair]; exact k
theorem cmp_pair_eq {S : DS} {p q : Int × Int} {K : Bool → Prop} (k : K (decide (p = q))) : cmpS .Eq (pairD p) (pairD q) S K := by
  refine ⟨pairP p, pairP q, rfl, rfl, rfl, rfl, ?_⟩
  rw [eqv_pair]; exact k
theorem cmp_in_pair {S : DS} {i : Int} {p : Int × Int} {K : Bool → Prop} (k : K (p.1 == i || p.2 == i)) : cmpS .In (.int i) (pairD p) S K := by
  refine ⟨.int i, [.int p.1, .int p.2], rfl, rfl, rfl, rfl, ?_⟩
  have e : ([PyData.int p.1, PyData.int p.2].any fun z => PyData.eqv z (.int i)) = (p.1 == i || p.2 == i) := by simp [PyData.eqv]
  rw [e]; exact k
theorem Fr.set {a x : Addr} {S S' : DS} {m : MO} (h : Fr a S S') (hx : S.mem x = none) (hne : a ≠ x) : Fr a S (S'.put x m) := ⟨fun b o n e => by
  have : b ≠ x := fun z => by subst z; rw [hx] at e; cases e
  rw [DS.put_ne this]; exact h.mem b o n e, h.lam, fun e => by rw [DS.put_ne hne]; exact h.at_ e⟩
theorem Pot.set {a x : Addr} {S : DS} {n : Nat} {m : MO} (h : Pot S a n) (hne : a ≠ x) : Pot (S.put x m) a n := by
  obtain ⟨o, m1, l, e, k⟩ := h
  exact ⟨o, m1, l, by rw [DS.put_ne hne]; exact e, k⟩
theorem add_ints {xs ys : List Int} {S : DS} {Q : QE} : binS .Add (intsD xs) (intsD ys) S Q = (xs.length + ys.length ≤ sizeLine ∧ Q (intsD (xs ++ ys)) S) := by
  show ((xs.map D.int).length + (ys.map D.int).length ≤ sizeLine ∧ Q (.tup (xs.map D.int ++ ys.map D.int)) S) = _
  rw [List.length_map, List.length_map, ← List.map_append]; rfl
theorem cutL_len {α : Type} (xs : List α) (lo hi : Option Int) : (cutL xs lo hi).length ≤ xs.length := (cutL_sub xs lo hi).length_le
/-! ### widths -/
def wid (ws : List (Int × Int)) : Nat := (ws.map fun p => (p.2 - p.1 - 1).toNat).sum
def mu (ws : List (Int × Int)) : Nat := (ws.map fun p => (2 * (p.2 - p.1) - 1).toNat).sum
theorem wid_app (a b : List (Int × Int)) : wid (a ++ b) = wid a + wid b := by simp [wid]
theorem mu_app (a b : List (Int × Int)) : mu (a ++ b) = mu a + mu b := by simp [mu]
theorem len_mu : ∀ {ws : List (Int × Int)}, (∀ p ∈ ws, p.1 < p.2) → ws.length ≤ mu ws
  | [], _ => Nat.zero_le _
  | v :: vs, h => by
    have := len_mu (ws := vs) fun p hp => h p (by simp [hp])
    have b := h v (by simp)
    have e : mu (v :: vs) = (2 * (v.2 - v.1) - 1).toNat + mu vs := by simp [mu]
    rw [e, List.length_cons]; omega
/-- by pairs -/
def onPair (f : Int × Int → Bool) : D → Bool
  | .tup [.int x, .int y] => f (x, y)
  | _ => false
theorem onPair_map (f : Int × Int → Bool) (fs : List (Int × Int)) : (fs.map pairD).filter (onPair f) = (fs.filter f).map pairD := by
  rw [List.filter_map]; rfl
/-- a cut, drawn: pairs in a polygon -/
def cCut : FC := fun ds S Q _ => ∃ a n, ∃ m : Nat, ds = [.ref a, .int m] ∧ 2 ≤ m ∧ m ≤ 1000 ∧ Pot S a (n + m) ∧ ∀ (qs : List (Int × Int)) S', Fr a S S' → Pot S' a n → qs.length ≤ m → (∀ q ∈ qs, 0 ≤ q.1 ∧ q.1 < q.2 ∧ q.2 < m) → Q (.tup (qs.map pairD)) S'
/-- for a text whose defs lie in another list: the contract's Γ need only tell the same classes and lambdas -/
theorem kRefused2 (G : GS) (Γ Γ0 : Ga) {i17 : Nat} (g17 : Γ.fn i17 = cHeard G Γ) (he : Γ0.exn = Γ.exn) (hl : Γ0.lc = Γ.lc) : Keeps G Γ (fRefused i17) (cRefused Γ0 G) := by
  have e : cRefused Γ0 G = cRefused Γ G := by unfold cRefused; rw [he, hl]
  rw [e]; exact kRefused G Γ g17
end LK

namespace K02
open PySem PySem.Spec PyProof.Rows L2 DL
abbrev PP : Program := PySem.Challenge.pw_eachdiamondone_k02_whole_three_more_numb
def LC : List (List Str × List Str) := [([], ["odd"]), ([], ["odd"]), (["miss"], [])]
def LL : List LamD := mkLams LC (PP.main.body.flatMap (lamsS 60))
def DD : List DefT := defsOf PP.main.body
def T : List (Str × GI) := [tg "is_whole" (.fn 0 ["value"]), tg "are_wholes" (.fn 1 ["value"]), tg "product_of" (.fn 2 ["one", "other"]), tg "turn_of" (.fn 3 ["number"]), tg "told_turns" (.fn 4 ["row"]), tg "is_row" (.fn 5 ["value"]), tg "last_three" (.fn 6 ["row"]), tg "look_at_short" (.fn 7 ["row"]), tg "told_last" (.fn 8 ["row"]), tg "shows_last_three" (.fn 9 ["row", "value"]), tg "_law_pot" (.fn 10 ["script", "place"]), tg "_law_take" (.fn 11 ["pot", "upto"]), tg "_law_of" (.fn 12 ["pot", "some"]), tg "_law_cells" (.fn 13 ["script", "most"]), tg "_law_heard" (.fn 14 ["call"]), tg "_law_odd" (.fn 15 ["pot"]), tg "_law_bent" (.fn 16 ["pot", "value"]), tg "_law_is_bool" (.fn 17 ["told", "due"]), tg "_law_times" (.fn 18 ["one", "other"]), tg "_law_turns" (.fn 19 ["row"]), tg "_law_is_whole" (.fn 20 ["value"]), tg "_law_cut_drawn" (.fn 21 ["pot", "many"]), tg "_law_row_of" (.fn 22 ["many", "cut"]), tg "_law_all_refused" (.fn 23 ["looks", "is_it", "value"]), tg "_law_closes" (.fn 24 ["row"]), tg "_law_is_three" (.fn 25 ["row", "value"]), tg "_law_is_there" (.fn 26 ["row"]), tg "_law_is_right" (.fn 27 ["pot", "row"]), tg "_law_row_drawn" (.fn 28 ["pot"]), tg "_law_right" (.fn 29 ["pot"]), tg "law" (.fn 30 ["script"]), tg "UNIT" (.val 0), tg "LESS" (.val 1), tg "MOST_PART" (.val 2), tg "MOST_ROW" (.val 3), tg "LEAST" (.val 4), tg "FenceError" .cls, tg "BadRow" .exc, tg "abs" (.blt "abs"), tg "all" (.blt "all"), tg "isinstance" (.blt "isinstance"), tg "len" (.blt "len"), tg "max" (.blt "max"), tg "min" (.blt "min"), tg "repr" (.blt "repr"), tg "sorted" (.blt "sorted"), tg "sum" (.blt "sum"), tg "ValueError" (.bty "ValueError"), tg "bool" (.bty "bool"), tg "int" (.bty "int"), tg "list" (.bty "list"), tg "range" (.bty "range"), tg "str" (.bty "str"), tg "tuple" (.bty "tuple")]
def F0 : FnCk := ⟨⟨T, ["value"], LL, false⟩, ["value"],
  (.cons (.ret (.bo .And (.more (.callB "isinstance" (.cons (.var 0) (.cons (.ty "int") .nil))) (.one (.nt (.callB "isinstance" (.cons (.var 0) (.cons (.ty "bool") .nil))))))))
  .nil)⟩
def F1 : FnCk := ⟨⟨T, ["value", "one"], LL, false⟩, ["value"],
  (.cons (.ret (.bo .And (.more (.callB "isinstance" (.cons (.var 0) (.cons (.ty "tuple") .nil))) (.one (.callB "all" (.cons (.lc (.name 1 false) (.val (.var 0)) .none (.call 0 (.cons (.var 1) .nil) .nil) [("one", 1)]) .nil))))))
  .nil)⟩
def F2 : FnCk := ⟨⟨T, ["one", "other", "a", "b", "c", "d", "e", "f", "g", "h"], LL, false⟩, ["one", "other"],
  (.cons (.asg (.tup (.cons (.tup (.cons (.name 2 false) (.cons (.name 3 false) .nil))) (.cons (.tup (.cons (.name 4 false) (.cons (.name 5 false) .nil))) .nil))) (.var 0))
  (.cons (.asg (.tup (.cons (.tup (.cons (.name 6 false) (.cons (.name 7 false) .nil))) (.cons (.tup (.cons (.name 8 false) (.cons (.name 9 false) .nil))) .nil))) (.var 1))
  (.cons (.ret (.tup (.cons (.tup (.cons (.bin .Add (.bin .Mult (.var 2) (.var 6)) (.bin .Mult (.var 3) (.var 8))) (.cons (.bin .Add (.bin .Mult (.var 2) (.var 7)) (.bin .Mult (.var 3) (.var 9))) .nil))) (.cons (.tup (.cons (.bin .Add (.bin .Mult (.var 4) (.var 6)) (.bin .Mult (.var 5) (.var 8))) (.cons (.bin .Add (.bin .Mult (.var 4) (.var 7)) (.bin .Mult (.var 5) (.var 9))) .nil))) .nil))))
  .nil)))⟩
def F3 : FnCk := ⟨⟨T, ["number"], LL, false⟩, ["number"],
  (.cons (.ret (.tup (.cons (.tup (.cons (.var 0) (.cons (.neg (.int 1)) .nil))) (.cons (.tup (.cons (.int 1) (.cons (.int 0) .nil))) .nil))))
  .nil)⟩
def F4 : FnCk := ⟨⟨T, ["row", "found", "number"], LL, false⟩, ["row"],
  (.cons (.asg (.name 1 false) (.glob 0))
  (.cons (.for_ (.name 2 false) (.val (.var 0))
  (.cons (.asg (.name 1 false) (.call 2 (.cons (.var 1) (.cons (.call 3 (.cons (.var 2) .nil) .nil) .nil)) .nil))
  .nil))
  (.cons (.ret (.var 1))
  .nil)))⟩
def F5 : FnCk := ⟨⟨T, ["value", "one"], LL, false⟩, ["value"],
  (.cons (.ite (.bo .Or (.more (.nt (.v (.call 1 (.cons (.var 0) .nil) .nil))) (.one (.cmp .Gt (.callB "len" (.cons (.var 0) .nil)) (.glob 3)))))
  (.cons (.ret (.bl false))
  .nil)
  .nil)
  (.cons (.ret (.callB "all" (.cons (.lc (.name 1 false) (.val (.var 0)) .none (.cmp .LtE (.callB "abs" (.cons (.var 1) .nil)) (.glob 2)) [("one", 1)]) .nil)))
  .nil))⟩
def F6 : FnCk := ⟨⟨T, ["row"], LL, false⟩, ["row"],
  (.cons (.expr (.call 7 (.cons (.var 0) .nil) .nil))
  (.cons (.ret (.call 8 (.cons (.var 0) .nil) .nil))
  .nil))⟩
def F7 : FnCk := ⟨⟨T, ["row"], LL, false⟩, ["row"],
  (.cons (.ite (.bo .Or (.more (.nt (.v (.call 5 (.cons (.var 0) .nil) .nil))) (.one (.cmp .Gt (.callB "len" (.cons (.var 0) .nil)) (.bin .Sub (.glob 3) (.glob 4))))))
  (.cons (.raise "BadRow" (.var 0))
  .nil)
  .nil)
  .nil)⟩
def F8 : FnCk := ⟨⟨T, ["row", "a", "b", "c", "d"], LL, false⟩, ["row"],
  (.cons (.asg (.tup (.cons (.tup (.cons (.name 1 false) (.cons (.name 2 false) .nil))) (.cons (.tup (.cons (.name 3 false) (.cons (.name 4 false) .nil))) .nil))) (.call 4 (.cons (.var 0) .nil) .nil))
  (.cons (.ite (.cmp .Eq (.var 1) (.int 0))
  (.cons (.ret (.ife (.cmp .Eq (.var 2) (.int 1)) (.tup (.cons (.var 4) (.cons (.int 0) (.cons (.int 0) .nil)))) .non))
  .nil)
  .nil)
  (.cons (.ret (.ife (.bo .And (.more (.cmp .Eq (.bin .Mod (.bin .Sub (.int 1) (.var 2)) (.var 1)) (.int 0)) (.one (.cmp .Eq (.bin .Mod (.bin .Add (.int 1) (.var 3)) (.var 1)) (.int 0))))) (.tup (.cons (.bin .FloorDiv (.bin .Sub (.int 1) (.var 2)) (.var 1)) (.cons (.var 1) (.cons (.bin .FloorDiv (.bin .Add (.int 1) (.var 3)) (.var 1)) .nil)))) .non))
  .nil)))⟩
def F9 : FnCk := ⟨⟨T, ["row", "value"], LL, false⟩, ["row", "value"],
  (.cons (.expr (.call 7 (.cons (.var 0) .nil) .nil))
  (.cons (.ite (.cmp .Is (.var 1) .non)
  (.cons (.ret (.cmp .Is (.call 8 (.cons (.var 0) .nil) .nil) .non))
  .nil)
  .nil)
  (.cons (.ret (.bo .And (.more (.call 1 (.cons (.var 1) .nil) .nil) (.more (.cmp .Eq (.callB "len" (.cons (.var 1) .nil)) (.glob 4)) (.one (.cmp .Eq (.call 4 (.cons (.tupS (.cons true (.var 0) (.cons true (.var 1) .nil))) .nil) .nil) (.glob 1)))))))
  .nil)))⟩
def F10 : FnCk := ⟨⟨T, ["script", "place", "cell", "own", "small"], LL, false⟩, ["script", "place"],
  (.cons (.asg (.name 2 false) (.ife (.cmp .Lt (.var 1) (.callB "len" (.cons (.var 0) .nil))) (.ix (.var 0) (.var 1)) (.bin .Add (.bin .Add (.bin .Mod (.callT "int" (.cons (.callB "sum" (.cons (.sl (.var 0) .none (.some (.int 1))) .nil)) .nil)) (.int 1000211)) (.bin .Mult (.int 4639) (.var 1))) (.int 3163))))
  (.cons (.asg (.name 3 false) (.bin .Mult (.bin .Mod (.callT "int" (.cons (.callB "abs" (.cons (.var 2) .nil)) .nil)) (.bin .Pow (.bin .Pow (.int 10) (.int 60)) (.int 5))) (.callT "int" (.cons (.cmp .GtE (.callB "abs" (.cons (.var 2) .nil)) (.bin .Pow (.int 10) (.int 18))) .nil))))
  (.cons (.asg (.name 4 false) (.bin .Mod (.callT "int" (.cons (.var 2) .nil)) (.int 2305843009213693951)))
  (.cons (.ret (.lst (.cons (.var 3) (.cons (.bin .Mod (.callT "int" (.cons (.bin .Add (.bin .Add (.bin .Mult (.var 4) (.int 72161)) (.bin .Mult (.bin .Mult (.int 10853) (.var 1)) (.var 1))) (.int 2843)) .nil)) (.int 2305843009213693921)) (.cons (.int 0) .nil)))))
  .nil))))⟩
def F11 : FnCk := ⟨⟨T, ["pot", "upto", "digit", "prime", "blend"], LL, false⟩, ["pot", "upto"],
  (.cons (.ite (.cmp .Gt (.ix (.var 0) (.int 0)) (.int 0))
  (.cons (.asg (.name 2 false) (.bin .Mod (.callT "int" (.cons (.ix (.var 0) (.int 0)) .nil)) (.var 1)))
  (.cons (.asg (.sub (.var 0) (.int 0)) (.bin .FloorDiv (.ix (.var 0) (.int 0)) (.var 1)))
  (.cons (.ret (.var 2))
  .nil)))
  .nil)
  (.cons (.asg (.sub (.var 0) (.int 2)) (.bin .Add (.ix (.var 0) (.int 2)) (.int 1)))
  (.cons (.asg (.name 3 false) (.ix (.lst (.cons (.int 2147483647) (.cons (.int 2147483629) (.cons (.int 2147483587) (.cons (.int 2147483579) (.cons (.int 2147483563) .nil)))))) (.bin .Mod (.callT "int" (.cons (.ix (.var 0) (.int 2)) .nil)) (.int 5))))
  (.cons (.asg (.name 4 false) (.bin .Mod (.callT "int" (.cons (.bin .Pow (.callT "int" (.cons (.bin .Add (.bin .Add (.ix (.var 0) (.int 1)) (.bin .Mult (.bin .Mult (.int 95257) (.ix (.var 0) (.int 2))) (.ix (.var 0) (.int 2)))) (.int 3163)) .nil)) (.int 3)) .nil)) (.var 3)))
  (.cons (.asg (.name 4 false) (.bin .Mod (.callT "int" (.cons (.bin .Mult (.var 4) (.bin .Add (.bin .Mod (.callT "int" (.cons (.var 4) .nil)) (.int 13441)) (.bin .Mult (.int 419) (.ix (.var 0) (.int 2))))) .nil)) (.int 2305843009213693907)))
  (.cons (.ret (.bin .Mod (.callT "int" (.cons (.bin .FloorDiv (.var 4) (.int 229)) .nil)) (.var 1)))
  .nil))))))⟩
def F12 : FnCk := ⟨⟨T, ["pot", "some"], LL, false⟩, ["pot", "some"],
  (.cons (.ret (.ix (.var 1) (.call 11 (.cons (.var 0) (.cons (.callB "len" (.cons (.var 1) .nil)) .nil)) .nil)))
  .nil)⟩
def F13 : FnCk := ⟨⟨T, ["script", "most"], LL, false⟩, ["script", "most"],
  (.cons (.ret (.rng false (.cons (.callB "max" (.cons (.int 1) (.cons (.callB "min" (.cons (.var 1) (.cons (.callB "len" (.cons (.var 0) .nil)) .nil))) .nil))) .nil)))
  .nil)⟩
def F14 : FnCk := ⟨⟨T, ["call", "caught", "gave", "error"], LL, false⟩, ["call"],
  (.cons (.asg (.tup (.cons (.name 1 false) (.cons (.name 2 false) .nil))) (.tup (.cons .non (.cons .non .nil))))
  (.cons (.heard 1 2 3 0 "FenceError")
  (.cons (.ret (.tup (.cons (.var 1) (.cons (.var 2) .nil))))
  .nil)))⟩
def F15 : FnCk := ⟨⟨T, ["pot", "some"], LL, false⟩, ["pot"],
  (.cons (.asg (.name 1 false) (.lst (.cons .non (.cons (.bl true) (.cons (.bl false) (.cons (.int 0) (.cons (.int 1) (.cons (.neg (.int 1)) (.cons (.int 33) (.cons (.bin .Pow (.int 10) (.int 20)) (.cons (.str "") (.cons (.str "a") (.cons (.str "cut") (.cons (.str "turns") (.cons (.tup .nil) (.cons (.lst .nil) (.cons (.dict .nil) (.cons (.tup (.cons (.int 0) .nil)) (.cons (.tup (.cons (.tup .nil) .nil)) (.cons (.lst (.cons (.int 1) .nil)) (.cons (.tup (.cons (.int 1) (.cons (.int 0) .nil))) .nil)))))))))))))))))))))
  (.cons (.asg (.name 1 false) (.bin .Add (.var 1) (.lst (.cons (.tup (.cons (.int 0) (.cons (.int 1) .nil))) (.cons (.tup (.cons .non .nil)) (.cons (.dict (.cons (.str "a") (.cons (.int 1) .nil))) (.cons (.tup (.cons (.tup (.cons (.int 1) .nil)) (.cons (.tup (.cons (.int 2) .nil)) .nil))) (.cons (.tup (.cons (.int 2) (.cons (.int 1) .nil))) (.cons (.tup (.cons (.int 1) (.cons (.int 1) (.cons (.int 1) .nil)))) (.cons (.tup (.cons (.tup (.cons (.bl true) .nil)) .nil)) (.cons (.tup (.cons (.str "cut") (.cons (.tup .nil) .nil))) (.cons (.tup (.cons (.int 2) (.cons (.int 1) (.cons (.int 0) .nil)))) .nil))))))))))))
  (.cons (.ret (.call 12 (.cons (.var 0) (.cons (.var 1) .nil)) .nil))
  .nil)))⟩
def F16 : FnCk := ⟨⟨T, ["pot", "value", "at"], LL, false⟩, ["pot", "value"],
  (.cons (.ite (.bo .And (.more (.v (.callB "isinstance" (.cons (.var 1) (.cons (.ty "tuple") .nil)))) (.more (.cmp .NotEq (.var 1) (.tup .nil)) (.one (.cmp .Gt (.call 11 (.cons (.var 0) (.cons (.int 5) .nil)) .nil) (.int 0))))))
  (.cons (.asg (.name 2 false) (.call 11 (.cons (.var 0) (.cons (.callB "len" (.cons (.var 1) .nil)) .nil)) .nil))
  (.cons (.ret (.bin .Add (.bin .Add (.sl (.var 1) .none (.some (.var 2))) (.tup (.cons (.call 16 (.cons (.var 0) (.cons (.ix (.var 1) (.var 2)) .nil)) .nil) .nil))) (.sl (.var 1) (.some (.bin .Add (.var 2) (.int 1))) .none)))
  .nil))
  .nil)
  (.cons (.ite (.v (.callB "isinstance" (.cons (.var 1) (.cons (.ty "tuple") .nil))))
  (.cons (.ret (.call 12 (.cons (.var 0) (.cons (.lst (.cons (.callT "list" (.cons (.var 1) .nil)) (.cons (.sl (.var 1) (.some (.int 1)) .none) (.cons (.sl (.var 1) .none (.some (.neg (.int 1)))) (.cons (.bin .Add (.var 1) (.sl (.var 1) (.some (.neg (.int 1))) .none)) (.cons (.rev (.var 1)) (.cons (.tup .nil) (.cons .non .nil)))))))) .nil)) .nil))
  .nil)
  .nil)
  (.cons (.ite (.v (.callB "isinstance" (.cons (.var 1) (.cons (.ty "bool") .nil))))
  (.cons (.ret (.call 12 (.cons (.var 0) (.cons (.lst (.cons (.nt (.var 1)) (.cons (.callT "int" (.cons (.var 1) .nil)) (.cons .non .nil)))) .nil)) .nil))
  .nil)
  .nil)
  (.cons (.ite (.v (.callB "isinstance" (.cons (.var 1) (.cons (.ty "int") .nil))))
  (.cons (.ret (.call 12 (.cons (.var 0) (.cons (.lst (.cons (.bin .Add (.var 1) (.int 1)) (.cons (.bin .Sub (.var 1) (.int 1)) (.cons (.bin .Sub (.neg (.var 1)) (.int 1)) (.cons (.callT "str" (.cons (.var 1) .nil)) (.cons (.cmp .Eq (.var 1) (.int 1)) (.cons .non (.cons (.tup (.cons (.var 1) .nil)) (.cons (.bin .Pow (.int 10) (.int 9)) .nil))))))))) .nil)) .nil))
  .nil)
  .nil)
  (.cons (.ite (.v (.callB "isinstance" (.cons (.var 1) (.cons (.ty "str") .nil))))
  (.cons (.ret (.call 12 (.cons (.var 0) (.cons (.lst (.cons (.bin .Add (.var 1) (.str "a")) (.cons (.sl (.var 1) (.some (.int 1)) .none) (.cons (.met "upper" (.var 1) .nil) (.cons (.str "") (.cons .non (.cons (.int 0) .nil))))))) .nil)) .nil))
  .nil)
  .nil)
  (.cons (.ret (.call 15 (.cons (.var 0) .nil) .nil))
  .nil))))))⟩
def F17 : FnCk := ⟨⟨T, ["told", "due"], LL, false⟩, ["told", "due"],
  (.cons (.ret (.bo .And (.more (.callB "isinstance" (.cons (.var 0) (.cons (.ty "bool") .nil))) (.one (.cmp .Eq (.var 0) (.var 1))))))
  .nil)⟩
def F18 : FnCk := ⟨⟨T, ["one", "other", "found", "row", "at"], LL, false⟩, ["one", "other"],
  (.cons (.asg (.name 2 false) (.lst .nil))
  (.cons (.for_ (.name 3 false) (.val (.var 0))
  (.cons (.expr (.met "append" (.var 2) (.cons (.callT "tuple" (.cons (.lc (.name 4 false) (.rng (.cons (.int 2) .nil)) .none (.bin .Add (.bin .Mult (.ix (.var 3) (.int 0)) (.ix (.ix (.var 1) (.int 0)) (.var 4))) (.bin .Mult (.ix (.var 3) (.int 1)) (.ix (.ix (.var 1) (.int 1)) (.var 4)))) [("at", 4)]) .nil)) .nil)))
  .nil))
  (.cons (.ret (.callT "tuple" (.cons (.var 2) .nil)))
  .nil)))⟩
def F19 : FnCk := ⟨⟨T, ["row", "found", "number"], LL, false⟩, ["row"],
  (.cons (.asg (.name 1 false) (.tup (.cons (.tup (.cons (.int 1) (.cons (.int 0) .nil))) (.cons (.tup (.cons (.int 0) (.cons (.int 1) .nil))) .nil))))
  (.cons (.for_ (.name 2 false) (.val (.var 0))
  (.cons (.asg (.name 1 false) (.call 18 (.cons (.var 1) (.cons (.tup (.cons (.tup (.cons (.var 2) (.cons (.neg (.int 1)) .nil))) (.cons (.tup (.cons (.int 1) (.cons (.int 0) .nil))) .nil))) .nil)) .nil))
  .nil))
  (.cons (.ret (.var 1))
  .nil)))⟩
def F20 : FnCk := ⟨⟨T, ["value"], LL, false⟩, ["value"],
  (.cons (.ret (.bo .And (.more (.callB "isinstance" (.cons (.var 0) (.cons (.ty "int") .nil))) (.one (.nt (.callB "isinstance" (.cons (.var 0) (.cons (.ty "bool") .nil))))))))
  .nil)⟩
def F21 : FnCk := ⟨⟨T, ["pot", "many", "found", "waiting", "low", "high", "middle", "one"], LL, false⟩, ["pot", "many"],
  (.cons (.par2 2 3 false false (.lst .nil) (.lst (.cons (.tup (.cons (.int 0) (.cons (.bin .Sub (.var 1) (.int 1)) .nil))) .nil)))
  (.cons (.while_ (.cmp .NotEq (.var 3) (.lst .nil))
  (.cons (.asg (.tup (.cons (.name 4 false) (.cons (.name 5 false) .nil))) (.met "pop" (.var 3) .nil))
  (.cons (.ite (.cmp .Gt (.bin .Sub (.var 5) (.var 4)) (.int 1))
  (.cons (.asg (.name 6 false) (.bin .Add (.bin .Add (.var 4) (.int 1)) (.callT "int" (.cons (.call 11 (.cons (.var 0) (.cons (.bin .Sub (.bin .Sub (.var 5) (.var 4)) (.int 1)) .nil)) .nil) .nil))))
  (.cons (.expr (.met "extend" (.var 3) (.cons (.lst (.cons (.tup (.cons (.var 4) (.cons (.var 6) .nil))) (.cons (.tup (.cons (.var 6) (.cons (.var 5) .nil))) .nil))) .nil)))
  (.cons (.expr (.met "append" (.var 2) (.cons (.tup (.cons (.var 4) (.cons (.var 5) .nil))) .nil)))
  .nil)))
  .nil)
  .nil)))
  (.cons (.ret (.callT "tuple" (.cons (.callB "sorted" (.cons (.lc (.name 7 false) (.val (.var 2)) (.some (.cmp .NotEq (.var 7) (.tup (.cons (.int 0) (.cons (.bin .Sub (.var 1) (.int 1)) .nil))))) (.var 7) [("one", 7)]) .nil)) .nil)))
  .nil)))⟩
def F22 : FnCk := ⟨⟨T, ["many", "cut", "one", "corner"], LL, false⟩, ["many", "cut"],
  (.cons (.ret (.callT "tuple" (.cons (.lc (.name 3 false) (.rng (.cons (.var 0) .nil)) .none (.bin .Add (.int 1) (.callB "len" (.cons (.lc (.name 2 false) (.val (.var 1)) (.some (.cmp .In (.var 3) (.var 2))) (.var 2) [("one", 2)]) .nil))) [("corner", 3)]) .nil)))
  .nil)⟩
def F23 : FnCk := ⟨⟨T, ["looks", "is_it", "value", "caught", "look", "miss"], LL, false⟩, ["looks", "is_it", "value"],
  (.cons (.setLc 3 false (.name 4 false) (.val (.var 0)) .none (.ix (.call 14 (.cons (.var 4) .nil) .nil) (.int 0)) [("look", 4)])
  (.cons (.ret (.callB "all" (.cons (.lc (.name 5 false) (.val (.var 3)) .none (.bo .And (.more (.callV 1 (.cons (.var 5) .nil)) (.more (.callB "isinstance" (.cons (.var 5) (.cons (.ty "ValueError") .nil))) (.one (.cmp .Eq (.callB "repr" (.cons (.value (.var 5)) .nil)) (.callB "repr" (.cons (.var 2) .nil))))))) [("miss", 5)]) .nil)))
  .nil))⟩
def F24 : FnCk := ⟨⟨T, ["row"], LL, false⟩, ["row"],
  (.cons (.ret (.cmp .Eq (.call 19 (.cons (.var 0) .nil) .nil) (.tup (.cons (.tup (.cons (.neg (.int 1)) (.cons (.int 0) .nil))) (.cons (.tup (.cons (.int 0) (.cons (.neg (.int 1)) .nil))) .nil)))))
  .nil)⟩
def F25 : FnCk := ⟨⟨T, ["row", "value", "one"], LL, false⟩, ["row", "value"],
  (.cons (.ite (.bo .Or (.more (.nt (.v (.callB "isinstance" (.cons (.var 1) (.cons (.ty "tuple") .nil))))) (.more (.cmp .NotEq (.callB "len" (.cons (.var 1) .nil)) (.int 3)) (.one (.nt (.v (.callB "all" (.cons (.lc (.name 2 false) (.val (.var 1)) .none (.call 20 (.cons (.var 2) .nil) .nil) [("one", 2)]) .nil))))))))
  (.cons (.ret (.bl false))
  .nil)
  .nil)
  (.cons (.ret (.call 24 (.cons (.bin .Add (.var 0) (.var 1)) .nil) .nil))
  .nil))⟩
def F26 : FnCk := ⟨⟨T, ["row", "a", "b", "c", "d"], LL, false⟩, ["row"],
  (.cons (.asg (.tup (.cons (.tup (.cons (.name 1 false) (.cons (.name 2 false) .nil))) (.cons (.tup (.cons (.name 3 false) (.cons (.name 4 false) .nil))) .nil))) (.call 19 (.cons (.var 0) .nil) .nil))
  (.cons (.ite (.cmp .Eq (.var 1) (.int 0))
  (.cons (.ret (.bo .And (.more (.cmp .Eq (.var 2) (.int 1)) (.one (.cmp .Eq (.var 3) (.neg (.int 1)))))))
  .nil)
  .nil)
  (.cons (.ret (.bo .And (.more (.cmp .Eq (.bin .Mod (.bin .Sub (.int 1) (.var 2)) (.var 1)) (.int 0)) (.one (.cmp .Eq (.bin .Mod (.bin .Add (.int 1) (.var 3)) (.var 1)) (.int 0))))))
  .nil)))⟩
def F27 : FnCk := ⟨⟨T, ["pot", "row", "told", "is_there", "values", "x", "y", "z", "value", "lap", "due"], LL, false⟩, ["pot", "row"],
  (.cons (.asg (.tup (.cons (.name 2 false) (.cons (.name 3 false) .nil))) (.tup (.cons (.call 6 .nil (.cons (.var 1) .nil)) (.cons (.call 26 (.cons (.var 1) .nil) .nil) .nil))))
  (.cons (.ite (.bo .Or (.more (.cmp .NotEq (.cmp .IsNot (.var 2) .non) (.var 3)) (.one (.bo .And (.more (.v (.var 3)) (.one (.nt (.v (.call 25 (.cons (.var 1) (.cons (.var 2) .nil)) .nil)))))))))
  (.cons (.ret (.bl false))
  .nil)
  .nil)
  (.cons (.asg (.name 4 false) (.lst (.cons (.var 2) (.cons .non (.cons (.tup .nil) (.cons (.tup (.cons (.int 0) (.cons (.int 0) (.cons (.int 0) .nil)))) (.cons (.tup (.cons (.int 1) (.cons (.int 1) (.cons (.int 1) .nil)))) (.cons (.tup (.cons (.bl true) (.cons (.int 1) (.cons (.int 1) .nil)))) (.cons (.call 15 (.cons (.var 0) .nil) .nil) .nil)))))))))
  (.cons (.ite (.cmp .IsNot (.var 2) .non)
  (.cons (.asg (.tup (.cons (.name 5 false) (.cons (.name 6 false) (.cons (.name 7 false) .nil)))) (.var 2))
  (.cons (.expr (.met "extend" (.var 4) (.cons (.lst (.cons (.callT "list" (.cons (.var 2) .nil)) (.cons (.rev (.var 2)) (.cons (.tup (.cons (.bin .Add (.var 5) (.int 1)) (.cons (.var 6) (.cons (.var 7) .nil)))) (.cons (.tup (.cons (.bin .Add (.var 5) (.int 1)) (.cons (.var 6) (.cons (.bin .Sub (.var 7) (.int 1)) .nil)))) (.cons (.tup (.cons (.var 5) (.cons (.var 6) (.cons (.bin .Add (.var 7) (.int 1)) .nil)))) (.cons (.tup (.cons (.var 5) (.cons (.var 6) .nil))) .nil))))))) .nil)))
  .nil))
  .nil)
  (.cons (.for_ (.name 8 false) (.val (.bin .Add (.var 4) (.lc (.name 9 false) (.rng (.cons (.int 6) .nil)) .none (.call 16 (.cons (.var 0) (.cons (.var 2) .nil)) .nil) [("lap", 9)])))
  (.cons (.asg (.name 10 false) (.ife (.cmp .Is (.var 8) .non) (.nt (.var 3)) (.call 25 (.cons (.var 1) (.cons (.var 8) .nil)) .nil)))
  (.cons (.ite (.nt (.v (.call 17 (.cons (.call 9 (.cons (.var 1) .nil) (.cons (.var 8) .nil)) (.cons (.var 10) .nil)) .nil)))
  (.cons (.ret (.bl false))
  .nil)
  .nil)
  .nil)))
  (.cons (.ret (.bl true))
  .nil))))))⟩
def F28 : FnCk := ⟨⟨T, ["pot", "way", "many", "row", "at", "upto"], LL, false⟩, ["pot"],
  (.cons (.par2 1 2 false false (.call 11 (.cons (.var 0) (.cons (.int 4) .nil)) .nil) (.bin .Add (.int 4) (.callT "int" (.cons (.call 11 (.cons (.var 0) (.cons (.int 9) .nil)) .nil) .nil))))
  (.cons (.ite (.cmp .Lt (.var 1) (.int 2))
  (.cons (.asg (.name 3 false) (.call 22 (.cons (.var 2) (.cons (.call 21 (.cons (.var 0) (.cons (.var 2) .nil)) .nil) .nil)) .nil))
  (.cons (.asg (.name 4 false) (.call 11 (.cons (.var 0) (.cons (.var 2) .nil)) .nil))
  (.cons (.asg (.name 3 false) (.bin .Add (.sl (.var 3) (.some (.var 4)) .none) (.sl (.var 3) .none (.some (.var 4)))))
  (.cons (.ret (.ife (.cmp .Eq (.var 1) (.int 0)) (.sl (.var 3) .none (.some (.neg (.int 3)))) (.bin .Add (.sl (.var 3) .none (.some (.neg (.int 3)))) (.tup (.cons (.int 0) (.cons (.int 0) .nil))))))
  .nil))))
  .nil)
  (.cons (.asg (.name 5 false) (.call 12 (.cons (.var 0) (.cons (.lst (.cons (.int 1) (.cons (.int 2) (.cons (.int 50) .nil)))) .nil)) .nil))
  (.cons (.ret (.callT "tuple" (.cons (.lc (.name 4 false) (.rng (.cons (.call 11 (.cons (.var 0) (.cons (.int 8) .nil)) .nil) .nil)) .none (.bin .Sub (.callT "int" (.cons (.call 11 (.cons (.var 0) (.cons (.bin .Add (.bin .Mult (.int 2) (.var 5)) (.int 1)) .nil)) .nil) .nil)) (.var 5)) [("at", 4)]) .nil)))
  .nil))))⟩
def F29 : FnCk := ⟨⟨T, ["pot", "lap", "odd", "looks"], LL, true⟩, ["pot"],
  (.cons (.for_ (.name 1 false) (.rng (.cons (.int 6) .nil))
  (.cons (.ite (.nt (.v (.call 27 (.cons (.var 0) (.cons (.call 28 (.cons (.var 0) .nil) .nil) .nil)) .nil)))
  (.cons (.ret (.bl false))
  .nil)
  .nil)
  .nil))
  (.cons (.ite (.bo .Or (.more (.cmp .NotEq (.call 6 (.cons (.bin .Mult (.tup (.cons (.int 2) .nil)) (.int 37)) .nil) .nil) (.tup (.cons (.int 1) (.cons (.int 38) (.cons (.int 1) .nil))))) (.more (.cmp .NotEq (.call 6 (.cons (.bin .Mult (.tup (.cons (.int 0) .nil)) (.int 36)) .nil) .nil) (.tup (.cons (.int 1) (.cons (.int 1) (.cons (.int 1) .nil))))) (.one (.cmp .NotEq (.call 6 (.cons (.tup .nil) .nil) .nil) (.tup (.cons (.int 1) (.cons (.int 1) (.cons (.int 1) .nil)))))))))
  (.cons (.ret (.bl false))
  .nil)
  .nil)
  (.cons (.ite (.bo .Or (.more (.cmp .IsNot (.call 6 (.cons (.tup (.cons (.int 0) .nil)) .nil) .nil) .non) (.one (.nt (.v (.call 27 (.cons (.var 0) (.cons (.tup (.cons (.int 0) (.cons (.int 0) (.cons (.int 0) .nil)))) .nil)) .nil))))))
  (.cons (.ret (.bl false))
  .nil)
  .nil)
  (.cons (.asg (.name 2 true) (.call 12 (.cons (.var 0) (.cons (.lst (.cons .non (.cons (.lst (.cons (.int 1) .nil)) (.cons (.tup (.cons (.bl true) .nil)) (.cons (.tup (.cons (.str "1") .nil)) (.cons (.tup (.cons (.bin .Add (.bin .Pow (.int 10) (.int 6)) (.int 1)) .nil)) (.cons (.bin .Mult (.tup (.cons (.int 1) .nil)) (.int 38)) (.cons (.int 5) (.cons (.tup (.cons (.tup (.cons (.int 1) .nil)) .nil)) .nil))))))))) .nil)) .nil))
  (.cons (.asg (.name 3 false) (.lst (.cons (.lam 0 [2]) .nil)))
  (.cons (.expr (.met "append" (.var 3) (.cons (.lam 1 [2]) .nil)))
  (.cons (.ret (.call 23 (.cons (.var 3) (.cons (.lam 2 []) (.cons (.var 2) .nil))) .nil))
  .nil)))))))⟩
def F30 : FnCk := ⟨⟨T, ["script", "place"], LL, false⟩, ["script"],
  (.cons (.ret (.callB "all" (.cons (.lc (.name 1 false) (.val (.call 13 (.cons (.var 0) (.cons (.int 3) .nil)) .nil)) .none (.call 29 (.cons (.call 10 (.cons (.var 0) (.cons (.var 1) .nil)) .nil) .nil) .nil) [("place", 1)]) .nil)))
  .nil)⟩
def Lm0 : LmCk := ⟨⟨T, ["odd"], LL, false⟩, (.call 6 (.cons (.var 0) .nil) .nil)⟩
def Lm1 : LmCk := ⟨⟨T, ["odd"], LL, false⟩, (.call 9 (.cons (.var 0) (.cons .non .nil)) .nil)⟩
def Lm2 : LmCk := ⟨⟨T, ["miss"], LL, false⟩, (.callB "isinstance" (.cons (.var 0) (.cons (.cls "BadRow") .nil)))⟩
theorem F0_ck : ckFn DD 0 F0 = true := by kernel_rfl
theorem F1_ck : ckFn DD 1 F1 = true := by kernel_rfl
theorem F2_ck : ckFn DD 2 F2 = true := by kernel_rfl
theorem F3_ck : ckFn DD 3 F3 = true := by kernel_rfl
theorem F4_ck : ckFn DD 4 F4 = true := by kernel_rfl
theorem F5_ck : ckFn DD 5 F5 = true := by kernel_rfl
theorem F6_ck : ckFn DD 6 F6 = true := by kernel_rfl
theorem F7_ck : ckFn DD 7 F7 = true := by kernel_rfl
theorem F8_ck : ckFn DD 8 F8 = true := by kernel_rfl
theorem F9_ck : ckFn DD 9 F9 = true := by kernel_rfl
theorem F10_ck : ckFn DD 10 F10 = true := by kernel_rfl
theorem F11_ck : ckFn DD 11 F11 = true := by kernel_rfl
theorem F12_ck : ckFn DD 12 F12 = true := by kernel_rfl
theorem F13_ck : ckFn DD 13 F13 = true := by kernel_rfl
theorem F14_ck : ckFn DD 14 F14 = true := by kernel_rfl
theorem F15_ck : ckFn DD 15 F15 = true := by kernel_rfl
theorem F16_ck : ckFn DD 16 F16 = true := by kernel_rfl
theorem F17_ck : ckFn DD 17 F17 = true := by kernel_rfl
theorem F18_ck : ckFn DD 18 F18 = true := by kernel_rfl
theorem F19_ck : ckFn DD 19 F19 = true := by kernel_rfl
theorem F20_ck : ckFn DD 20 F20 = true := by kernel_rfl
theorem F21_ck : ckFn DD 21 F21 = true := by kernel_rfl
theorem F22_ck : ckFn DD 22 F22 = true := by kernel_rfl
theorem F23_ck : ckFn DD 23 F23 = true := by kernel_rfl
theorem F24_ck : ckFn DD 24 F24 = true := by kernel_rfl
theorem F25_ck : ckFn DD 25 F25 = true := by kernel_rfl
theorem F26_ck : ckFn DD 26 F26 = true := by kernel_rfl
theorem F27_ck : ckFn DD 27 F27 = true := by kernel_rfl
theorem F28_ck : ckFn DD 28 F28 = true := by kernel_rfl
theorem F29_ck : ckFn DD 29 F29 = true := by kernel_rfl
theorem F30_ck : ckFn DD 30 F30 = true := by kernel_rfl
theorem Lm0_ck : ckLm LL 0 Lm0 = true := by kernel_rfl
theorem Lm1_ck : ckLm LL 1 Lm1 = true := by kernel_rfl
theorem Lm2_ck : ckLm LL 2 Lm2 = true := by kernel_rfl
end K02

namespace K02
open PySem PySem.Spec PyProof.Rows L2 DL
def iniOf (b : List Stmt) : Arguments × List Stmt × Scope := match b with
  | .ClassDef (body := [.FunctionDef (args := a) (body := c) (scope := s) ..]) .. :: _ => (a, c, s)
  | _ :: r => iniOf r
  | [] => (⟨[], [], none, [], [], none, []⟩, [], ⟨.function, [], false, false, []⟩)
def pr (a b : Str) : Str × Str := (a, b)
def vd (a : Str) (d : D) : Str × D := (a, d)
def gvs : List (Str × D) := [vd "UNIT" (.tup [.tup [.int 1, .int 0], .tup [.int 0, .int 1]]), vd "LESS" (.tup [.tup [.int (-1), .int 0], .tup [.int 0, .int (-1)]]), vd "MOST_PART" (.int 1000000), vd "MOST_ROW" (.int 40), vd "LEAST" (.int 3)]
def XD : HdD where
  fns := DD
  exs := (["FenceError", "BadRow"] : List Str)
  subs := [pr "FenceError" "FenceError", pr "BadRow" "BadRow", pr "BadRow" "FenceError"]
  vals := gvs
  blts := (["ValueError", "all", "list", "isinstance", "tuple", "bool", "int", "str", "range", "sorted", "len", "max"] : List Str) ++ (["super", "abs", "min", "repr", "sum"] : List Str)
  tabs := (["_law_right"] : List Str)
  ini := iniOf PP.main.body
  file := PP.main.file
def loose : List Str := (["__name__", "FenceError", "BadRow", "is_whole", "are_wholes", "UNIT", "LESS", "MOST_PART", "MOST_ROW", "product_of", "turn_of", "told_turns"] : List Str) ++ (["is_row", "LEAST", "last_three", "look_at_short", "told_last", "shows_last_three", "_law_pot", "_law_take", "_law_of", "_law_cells", "_law_heard", "_law_odd"] : List Str) ++ (["_law_bent", "_law_is_bool", "_law_times", "_law_turns", "_law_is_whole", "_law_cut_drawn", "_law_row_of", "_law_all_refused", "_law_closes", "_law_is_three", "_law_is_there", "_law_is_right"] : List Str) ++ (["_law_row_drawn", "_law_right"] : List Str)
abbrev R : PySem.W.OpenRow := PySem.W.OpenLaw.row PySem.Challenge.rw_eachdiamondone_k02_whole_three_more_numb
theorem run (w : World) : HandSHeadRun.RunEq R (PySem.W.view R.prog [42]) XD.hook (fun s => XD.obs (HandSHeadRun.getT s)) 2000 loose w := by
  intro os
  kernel_rfl
end K02

namespace K02
open PySem DL LK
/-! ### three more numbers -/
def less : M2 := ⟨-1, 0, 0, -1⟩
def lastT (m : M2) : Option (Int × Int × Int) :=
  if m.a = 0 then (if m.b = 1 then some (m.d, 0, 0) else none)
  else if (1 - m.b).fmod m.a = 0 ∧ (1 + m.c).fmod m.a = 0 then some ((1 - m.b).fdiv m.a, m.a, (1 + m.c).fdiv m.a) else none
def tD : Option (Int × Int × Int) → D
  | none => .non
  | some (x, y, z) => intsD [x, y, z]
theorem isNon_tD (o : Option (Int × Int × Int)) : isNon (tD o) = o.isNone := by
  cases o with
  | none => rfl
  | some p => obtain ⟨x, y, z⟩ := p; rfl
theorem turns3 (x y z : Int) : M2.turns [x, y, z] = ⟨(x * y - 1) * z - x, -(x * y - 1), y * z - 1, -y⟩ := by
  simp only [M2.turns, List.foldl, M2.mul, M2.one, M2.turn, M2.mk.injEq]
  refine ⟨?_, ?_, ?_, ?_⟩ <;> simp only [Int.sub_eq_add_neg, Int.add_mul, Int.mul_add, Int.mul_neg, Int.neg_mul, Int.one_mul, Int.mul_one, Int.zero_mul, Int.mul_zero, Int.add_zero, Int.zero_add, Int.neg_add, Int.neg_neg, Int.neg_zero] <;> omega
/-- the three close the row -/
theorem lastT_closes {m : M2} (hd : m.det = 1) {x y z : Int} (h : lastT m = some (x, y, z)) : m.mul (M2.turns [x, y, z]) = less := by
  obtain ⟨a, b, c, d⟩ := m
  have hd : a * d - b * c = 1 := hd
  unfold lastT at h
  simp only at h
  split at h
  · rename_i ha
    split at h
    · rename_i hb
      simp only [Option.some.injEq, Prod.mk.injEq] at h
      obtain ⟨rfl, rfl, rfl⟩ := h
      subst ha hb
      have hc : c = -1 := by omega
      subst hc
      rw [turns3]
      simp [M2.mul, less]
      omega
    · cases h
  · rename_i ha
    split at h
    · rename_i hm
      obtain ⟨h1, h2⟩ := hm
      simp only [Option.some.injEq, Prod.mk.injEq] at h
      obtain ⟨hx, rfl, hz⟩ := h
      have e1 : a * x = 1 - b := by
        have := Int.mul_fdiv_add_fmod (1 - b) a
        rw [h1, hx] at this; omega
      have e2 : a * z = 1 + c := by
        have := Int.mul_fdiv_add_fmod (1 + c) a
        rw [h2, hz] at this; omega
      rw [turns3]
      have hxy : x * a = 1 - b := by rw [Int.mul_comm]; exact e1
      have hc : c = a * z - 1 := by omega
      have hb : b = 1 - a * x := by omega
      have key : d = x * (a * z - 1) - z + 0 ∨ True := .inr trivial
      -- a (x c - z) = -(a d)
      have e3 : a * (x * c - z + d) = 0 := by
        have q1 : a * (x * c) = (1 - b) * c := by rw [← Int.mul_assoc, e1]
        have q2 : (1 - b) * c = c - b * c := by rw [Int.sub_mul, Int.one_mul]
        rw [Int.mul_add, Int.mul_sub, q1, q2, e2]
        omega
      have e4 : x * c - z + d = 0 := by
        rcases Int.mul_eq_zero.mp e3 with q | q
        · exact absurd q ha
        · exact q
      simp only [M2.mul, less, M2.mk.injEq, hxy, e2]
      have p1 : (1 - b - 1) * z - x = -(b * z) - x := by
        have : (1 - b - 1) * z = -(b * z) := by rw [show (1 - b - 1 : Int) = -b by omega, Int.neg_mul]
        rw [this]
      have p2 : (1 + c - 1 : Int) = c := by omega
      rw [p1, p2]
      have bz : a * (b * z) = b * (1 + c) := by rw [← e2, ← Int.mul_assoc, Int.mul_comm a b, Int.mul_assoc]
      have cx : c * x = z - d := by rw [Int.mul_comm]; omega
      refine ⟨?_, ?_, ?_, ?_⟩
      · rw [Int.mul_sub, Int.mul_neg, bz, e1, Int.mul_add]
        omega
      · have : -(1 - b - 1 : Int) = b := by omega
        rw [this, Int.mul_comm a b, Int.mul_neg]
        omega
      · have q1 : c * (-(b * z) - x) = -(b * (c * z)) - c * x := by
          rw [Int.mul_sub, Int.mul_neg, ← Int.mul_assoc, Int.mul_comm c b, Int.mul_assoc]
        have q2 : b * (c * z) = (a * d - 1) * z := by rw [← Int.mul_assoc]; congr 1; omega
        have q3 : (a * d - 1) * z = d * (a * z) - z := by rw [Int.sub_mul, Int.one_mul, Int.mul_comm a d, Int.mul_assoc]
        rw [q1, q2, q3, e2, cx, Int.mul_add]
        omega
      · have q : c * -(1 - b - 1 : Int) = b * c := by rw [show -(1 - b - 1 : Int) = b by omega, Int.mul_comm]
        rw [q, Int.mul_neg, Int.mul_comm d a]
        omega
    · cases h
/-! ### the program's defs -/
def shortD (v : D) : Bool := match v with
  | .tup ds => isRowD (.tup ds) && decide (ds.length ≤ 37)
  | _ => false
def Short (is : List Int) : Prop := Row is ∧ is.length ≤ 37
theorem Short.ok {is : List Int} (h : Short is) : shortD (intsD is) = true := by
  show (isRowD (intsD is) && decide ((is.map D.int).length ≤ 37)) = true
  rw [h.1.ok, List.length_map, decide_eq_true h.2]; rfl
theorem short_ex {v : D} (h : shortD v = true) : ∃ is, v = intsD is ∧ Short is := by
  cases v with
  | tup ds =>
    have h : (isRowD (.tup ds) && decide (ds.length ≤ 37)) = true := h
    rw [Bool.and_eq_true, decide_eq_true_eq] at h
    obtain ⟨is, e, _, h2, h3⟩ := isRow_ex h.1
    have e2 : ds = is.map D.int := by injection e
    have h1 := h.2
    rw [e2, List.length_map] at h1
    exact ⟨is, e, ⟨h2, h3⟩, h1⟩
  | _ => cases h
def c7 : FC := fun ds S Q E => ∃ v, ds = [v] ∧ TyT S v ∧ (shortD v = true → Q .non S) ∧ (shortD v = false → E "BadRow" v S)
theorem w7 (G : GS) (Γ : Ga) (g5 : Γ.fn 5 = cIsRow) (g3 : Γ.gv 3 = .int 40) (g4 : Γ.gv 4 = .int 3) : Keeps G Γ F7 c7 := by
  rintro ds S Q E ⟨v, rfl, hv, q1, q2⟩
  simp (config := {decide := true}) only [F7, wpSs, DL.wpS, wpE, wpX, star_tup, star_ref, wpEs, wpEn, wpO, wpCh, wpB, wpBs, wpBo, wpI, wpT, wpTs, boolOf, startR, CTs.len, CEs.len, CEs.isNil, upto_ff, upto_tt, List.length_cons, List.length_nil, List.map_cons, List.map_nil, List.replicate, List.cons_append, List.nil_append, List.append_nil, List.set_cons_zero, List.set_cons_succ, bind_some, bind_none, getV_nil, getV_0s, getV_0n, getV_s, if_true, if_false, Bool.false_eq_true, ite_self, true_and, and_true, blt_len, blt_abs, blt_max, blt_min, blt_sum, blt_all, blt_any, blt_repr, blt_isi, lst_ref, len_tup, len_str, len_ref, bty_int, bty_bool, bty_str, bty_strs, bty_tup, bty_tupl, bty_lst, bty_lstl, bin_add, bin_sub, bin_mul, bin_div, bin_mod, bin_pow, bin_adds, bin_addt, bin_mult, bin_addl, cmp_lt, cmp_le, cmp_gt, cmp_ge, cmp_eq, cmp_ne, cmp_eqs, cmp_nes, cmp_eqt, cmp_net, cmp_is, cmp_isn, tru_non, tru_bl', tru_int, tru_str, tru_tup, tru_ref, neg_int, ix_tup', ix_str', ix_ref', sl_tup', sl_str', sl_ref', rev_tup', part_int, walk_tup, walk_ref, walk_str, rng_1, rng_2, set_ref, aug_add, aug_sub, rg_1, rg_2, atI_0, atI_1, atI_2, ixN3_0, ixN3_1, ixN3_2, ex_lst, DS.put_same, lstAt_put, g5, g3, g4]
  refine ⟨v, rfl, hv, ?_⟩
  cases h : isRowD v with
  | false =>
    have hs : shortD v = false := by
      cases v with
      | tup ds => show (isRowD (.tup ds) && _) = false; rw [h]; rfl
      | _ => rfl
    simp only [wpSs, DL.wpS, wpE, wpX, star_tup, star_ref, wpEs, wpEn, wpO, wpCh, wpB, wpBs, wpBo, wpI, wpT, wpTs, boolOf, startR, CTs.len, CEs.len, CEs.isNil, upto_ff, upto_tt, List.length_cons, List.length_nil, List.map_cons, List.map_nil, List.replicate, List.cons_append, List.nil_append, List.append_nil, List.set_cons_zero, List.set_cons_succ, bind_some, bind_none, getV_nil, getV_0s, getV_0n, getV_s, if_true, if_false, Bool.false_eq_true, ite_self, true_and, and_true, blt_len, blt_abs, blt_max, blt_min, blt_sum, blt_all, blt_any, blt_repr, blt_isi, lst_ref, len_tup, len_str, len_ref, bty_int, bty_bool, bty_str, bty_strs, bty_tup, bty_tupl, bty_lst, bty_lstl, bin_add, bin_sub, bin_mul, bin_div, bin_mod, bin_pow, bin_adds, bin_addt, bin_mult, bin_addl, cmp_lt, cmp_le, cmp_gt, cmp_ge, cmp_eq, cmp_ne, cmp_eqs, cmp_nes, cmp_eqt, cmp_net, cmp_is, cmp_isn, tru_non, tru_bl', tru_int, tru_str, tru_tup, tru_ref, neg_int, ix_tup', ix_str', ix_ref', sl_tup', sl_str', sl_ref', rev_tup', part_int, walk_tup, walk_ref, walk_str, rng_1, rng_2, set_ref, aug_add, aug_sub, rg_1, rg_2, atI_0, atI_1, atI_2, ixN3_0, ixN3_1, ixN3_2, ex_lst, DS.put_same, lstAt_put, Bool.not_false]
    exact eE_same (q2 hs)
  | true =>
    obtain ⟨is, rfl, h1, h2, h3⟩ := isRow_ex h
    simp only [wpSs, DL.wpS, wpE, wpX, star_tup, star_ref, wpEs, wpEn, wpO, wpCh, wpB, wpBs, wpBo, wpI, wpT, wpTs, boolOf, startR, CTs.len, CEs.len, CEs.isNil, upto_ff, upto_tt, List.length_cons, List.length_nil, List.map_cons, List.map_nil, List.replicate, List.cons_append, List.nil_append, List.append_nil, List.set_cons_zero, List.set_cons_succ, bind_some, bind_none, getV_nil, getV_0s, getV_0n, getV_s, if_true, if_false, Bool.false_eq_true, ite_self, true_and, and_true, blt_len, blt_abs, blt_max, blt_min, blt_sum, blt_all, blt_any, blt_repr, blt_isi, lst_ref, len_tup, len_str, len_ref, bty_int, bty_bool, bty_str, bty_strs, bty_tup, bty_tupl, bty_lst, bty_lstl, bin_add, bin_sub, bin_mul, bin_div, bin_mod, bin_pow, bin_adds, bin_addt, bin_mult, bin_addl, cmp_lt, cmp_le, cmp_gt, cmp_ge, cmp_eq, cmp_ne, cmp_eqs, cmp_nes, cmp_eqt, cmp_net, cmp_is, cmp_isn, tru_non, tru_bl', tru_int, tru_str, tru_tup, tru_ref, neg_int, ix_tup', ix_str', ix_ref', sl_tup', sl_str', sl_ref', rev_tup', part_int, walk_tup, walk_ref, walk_str, rng_1, rng_2, set_ref, aug_add, aug_sub, rg_1, rg_2, atI_0, atI_1, atI_2, ixN3_0, ixN3_1, ixN3_2, ex_lst, DS.put_same, lstAt_put, Bool.not_true, len_ints]
    have hs : shortD (intsD is) = decide (is.length ≤ 37) := by
      show (isRowD (intsD is) && decide ((is.map D.int).length ≤ 37)) = _
      rw [h, List.length_map]; rfl
    rw [hs] at q1 q2
    have e40 : (40 - 3 : Int) = 37 := rfl
    rw [e40]
    by_cases hl : is.length ≤ 37
    · rw [decide_eq_false (show ¬ ((37 : Int) < (is.length : Int)) by omega)]
      simp only [Bool.false_eq_true, if_false]
      exact fgtQ_same (q1 (decide_eq_true hl))
    · rw [decide_eq_true (show (37 : Int) < (is.length : Int) by omega)]
      simp only [if_true]
      exact eE_same (q2 (decide_eq_false hl))
theorem useT {is : List Int} {S : DS} {Q : QE} {E : EX} (h : Row is) (q : Q (M2.turns is).toD S) : cTurnsG [intsD is] S Q E := ⟨is, 20, rfl, by decide, h.sm, by have := h.1; omega, q⟩
def c8 : FC := fun ds S Q _ => ∃ is, ds = [intsD is] ∧ Row is ∧ Q (tD (lastT (M2.turns is))) S
theorem w8 (G : GS) (Γ : Ga) (g4 : Γ.fn 4 = cTurnsG) : Keeps G Γ F8 c8 := by
  rintro ds S Q E ⟨is, rfl, hr, q⟩
  have hb := hr.bd
  simp (config := {decide := true}) only [F8, wpSs, DL.wpS, wpE, wpX, star_tup, star_ref, wpEs, wpEn, wpO, wpCh, wpB, wpBs, wpBo, wpI, wpT, wpTs, boolOf, startR, CTs.len, CEs.len, CEs.isNil, upto_ff, upto_tt, List.length_cons, List.length_nil, List.map_cons, List.map_nil, List.replicate, List.cons_append, List.nil_append, List.append_nil, List.set_cons_zero, List.set_cons_succ, bind_some, bind_none, getV_nil, getV_0s, getV_0n, getV_s, if_true, if_false, Bool.false_eq_true, ite_self, true_and, and_true, blt_len, blt_abs, blt_max, blt_min, blt_sum, blt_all, blt_any, blt_repr, blt_isi, lst_ref, len_tup, len_str, len_ref, bty_int, bty_bool, bty_str, bty_strs, bty_tup, bty_tupl, bty_lst, bty_lstl, bin_add, bin_sub, bin_mul, bin_div, bin_mod, bin_pow, bin_adds, bin_addt, bin_mult, bin_addl, cmp_lt, cmp_le, cmp_gt, cmp_ge, cmp_eq, cmp_ne, cmp_eqs, cmp_nes, cmp_eqt, cmp_net, cmp_is, cmp_isn, tru_non, tru_bl', tru_int, tru_str, tru_tup, tru_ref, neg_int, ix_tup', ix_str', ix_ref', sl_tup', sl_str', sl_ref', rev_tup', part_int, walk_tup, walk_ref, walk_str, rng_1, rng_2, set_ref, aug_add, aug_sub, rg_1, rg_2, atI_0, atI_1, atI_2, ixN3_0, ixN3_1, ixN3_2, ex_lst, DS.put_same, lstAt_put, g4]
  refine useT hr ?_
  simp (config := {decide := true}) only [M2.toD, wpSs, DL.wpS, wpE, wpX, star_tup, star_ref, wpEs, wpEn, wpO, wpCh, wpB, wpBs, wpBo, wpI, wpT, wpTs, boolOf, startR, CTs.len, CEs.len, CEs.isNil, upto_ff, upto_tt, List.length_cons, List.length_nil, List.map_cons, List.map_nil, List.replicate, List.cons_append, List.nil_append, List.append_nil, List.set_cons_zero, List.set_cons_succ, bind_some, bind_none, getV_nil, getV_0s, getV_0n, getV_s, if_true, if_false, Bool.false_eq_true, ite_self, true_and, and_true, blt_len, blt_abs, blt_max, blt_min, blt_sum, blt_all, blt_any, blt_repr, blt_isi, lst_ref, len_tup, len_str, len_ref, bty_int, bty_bool, bty_str, bty_strs, bty_tup, bty_tupl, bty_lst, bty_lstl, bin_add, bin_sub, bin_mul, bin_div, bin_mod, bin_pow, bin_adds, bin_addt, bin_mult, bin_addl, cmp_lt, cmp_le, cmp_gt, cmp_ge, cmp_eq, cmp_ne, cmp_eqs, cmp_nes, cmp_eqt, cmp_net, cmp_is, cmp_isn, tru_non, tru_bl', tru_int, tru_str, tru_tup, tru_ref, neg_int, ix_tup', ix_str', ix_ref', sl_tup', sl_str', sl_ref', rev_tup', part_int, walk_tup, walk_ref, walk_str, rng_1, rng_2, set_ref, aug_add, aug_sub, rg_1, rg_2, atI_0, atI_1, atI_2, ixN3_0, ixN3_1, ixN3_2, ex_lst, DS.put_same, lstAt_put]
  unfold lastT at q
  generalize M2.turns is = m at q hb ⊢
  by_cases h0 : m.a = 0
  · rw [if_pos h0] at q
    simp only [h0, decide_true, if_true]
    by_cases h1 : m.b = 1
    · rw [if_pos h1] at q
      simp only [h1, decide_true, if_true]
      exact fgtQ_same q
    · rw [if_neg h1] at q
      simp only [h1, decide_false, Bool.false_eq_true, if_false]
      exact fgtQ_same q
  · rw [if_neg h0] at q
    simp only [h0, decide_false, Bool.false_eq_true, if_false]
    refine ⟨h0, ?_⟩
    by_cases h1 : (1 - m.b).fmod m.a = 0
    · simp only [h1, decide_true, if_true]
      refine ⟨h0, ?_⟩
      by_cases h2 : (1 + m.c).fmod m.a = 0
      · rw [if_pos ⟨h1, h2⟩] at q
        simp only [h2, decide_true, if_true]
        exact ⟨divOk_bd h0 hb.a (by decide), divOk_bd h0 hb.a (by decide), fgtQ_same q⟩
      · rw [if_neg (fun z => h2 z.2)] at q
        simp only [h2, decide_false, Bool.false_eq_true, if_false]
        exact fgtQ_same q
    · rw [if_neg (fun z => h1 z.1)] at q
      simp only [h1, decide_false, Bool.false_eq_true, if_false]
      exact fgtQ_same q
def c6 : FC := fun ds S Q E => ∃ v, ds = [v] ∧ TyT S v ∧ (∀ is, v = intsD is → Short is → Q (tD (lastT (M2.turns is))) S) ∧ (shortD v = false → E "BadRow" v S)
theorem w6 (G : GS) (Γ : Ga) (g7 : Γ.fn 7 = c7) (g8 : Γ.fn 8 = c8) : Keeps G Γ F6 c6 := by
  rintro ds S Q E ⟨v, rfl, hv, q1, q2⟩
  simp (config := {decide := true}) only [F6, wpSs, DL.wpS, wpE, wpX, star_tup, star_ref, wpEs, wpEn, wpO, wpCh, wpB, wpBs, wpBo, wpI, wpT, wpTs, boolOf, startR, CTs.len, CEs.len, CEs.isNil, upto_ff, upto_tt, List.length_cons, List.length_nil, List.map_cons, List.map_nil, List.replicate, List.cons_append, List.nil_append, List.append_nil, List.set_cons_zero, List.set_cons_succ, bind_some, bind_none, getV_nil, getV_0s, getV_0n, getV_s, if_true, if_false, Bool.false_eq_true, ite_self, true_and, and_true, blt_len, blt_abs, blt_max, blt_min, blt_sum, blt_all, blt_any, blt_repr, blt_isi, lst_ref, len_tup, len_str, len_ref, bty_int, bty_bool, bty_str, bty_strs, bty_tup, bty_tupl, bty_lst, bty_lstl, bin_add, bin_sub, bin_mul, bin_div, bin_mod, bin_pow, bin_adds, bin_addt, bin_mult, bin_addl, cmp_lt, cmp_le, cmp_gt, cmp_ge, cmp_eq, cmp_ne, cmp_eqs, cmp_nes, cmp_eqt, cmp_net, cmp_is, cmp_isn, tru_non, tru_bl', tru_int, tru_str, tru_tup, tru_ref, neg_int, ix_tup', ix_str', ix_ref', sl_tup', sl_str', sl_ref', rev_tup', part_int, walk_tup, walk_ref, walk_str, rng_1, rng_2, set_ref, aug_add, aug_sub, rg_1, rg_2, atI_0, atI_1, atI_2, ixN3_0, ixN3_1, ixN3_2, ex_lst, DS.put_same, lstAt_put, g7, g8]
  refine ⟨v, rfl, hv, fun h => ?_, fun h => eE_same (q2 h)⟩
  obtain ⟨is, rfl, h1⟩ := short_ex h
  exact ⟨is, rfl, h1.1, fgtQ_same (q1 is rfl h1)⟩
def threeB (is : List Int) (x : D) : Bool := match x with
  | .tup ds => decide (ds.length = 3) && (ds.all isWholeD && decide (M2.turns (is ++ rowOf (.tup ds)) = less))
  | _ => false
def showsB (is : List Int) (x : D) : Bool := match x with
  | .non => (lastT (M2.turns is)).isNone
  | x => threeB is x
/-- the numbers of a thing that may be shown -/
theorem ints_of {S : DS} {ds : List D} (v : Vd S (.tup ds)) (h : ds.all isWholeD = true) : ∃ js, ds = js.map D.int ∧ rowOf (.tup ds) = js ∧ ∀ j ∈ js, bd 12000 j := by
  obtain ⟨js, rfl⟩ := tupInts_all h
  refine ⟨js, rfl, ?_, fun j hj => ?_⟩
  · show (tupInts (js.map D.int)).getD [] = js
    rw [tupInts_ints]; rfl
  · exact Vp.bdInt (Vp.item (m := 19) v.tup (List.mem_map.mpr ⟨j, hj, rfl⟩))
theorem useT2 {is js : List Int} {S : DS} {Q : QE} {E : EX} (h : Short is) (hj : ∀ j ∈ js, bd 12000 j) (l : js.length = 3) (q : Q (M2.turns (is ++ js)).toD S) : cTurnsG [.tup (is.map D.int ++ js.map D.int)] S Q E := by
  refine ⟨is ++ js, 12000, by rw [intsD, List.map_append], by decide, fun i hi => ?_, ?_, q⟩
  · rcases List.mem_append.mp hi with hi | hi
    · exact DL.bd.mono (h.1.sm i hi) (by decide)
    · exact hj i hi
  · rw [List.length_append, l]
    have := h.2
    omega
def c9 : FC := fun ds S Q E => ∃ v x, ds = [v, x] ∧ TyT S v ∧ Vd S x ∧ (shortD v = false → E "BadRow" v S) ∧ (∀ is, v = intsD is → Short is → Q (.bl (showsB is x)) S)
theorem w9 (G : GS) (Γ : Ga) (g1 : Γ.fn 1 = cAreWholes) (g4 : Γ.fn 4 = cTurnsG) (g7 : Γ.fn 7 = c7) (g8 : Γ.fn 8 = c8) (v1 : Γ.gv 1 = less.toD) (v4 : Γ.gv 4 = .int 3) : Keeps G Γ F9 c9 := by
  rintro ds S Q E ⟨v, x, rfl, hv, hx, q2, q1⟩
  simp (config := {decide := true}) only [F9, wpSs, DL.wpS, wpE, wpX, star_tup, star_ref, wpEs, wpEn, wpO, wpCh, wpB, wpBs, wpBo, wpI, wpT, wpTs, boolOf, startR, CTs.len, CEs.len, CEs.isNil, upto_ff, upto_tt, List.length_cons, List.length_nil, List.map_cons, List.map_nil, List.replicate, List.cons_append, List.nil_append, List.append_nil, List.set_cons_zero, List.set_cons_succ, bind_some, bind_none, getV_nil, getV_0s, getV_0n, getV_s, if_true, if_false, Bool.false_eq_true, ite_self, true_and, and_true, blt_len, blt_abs, blt_max, blt_min, blt_sum, blt_all, blt_any, blt_repr, blt_isi, lst_ref, len_tup, len_str, len_ref, bty_int, bty_bool, bty_str, bty_strs, bty_tup, bty_tupl, bty_lst, bty_lstl, bin_add, bin_sub, bin_mul, bin_div, bin_mod, bin_pow, bin_adds, bin_addt, bin_mult, bin_addl, cmp_lt, cmp_le, cmp_gt, cmp_ge, cmp_eq, cmp_ne, cmp_eqs, cmp_nes, cmp_eqt, cmp_net, cmp_is, cmp_isn, tru_non, tru_bl', tru_int, tru_str, tru_tup, tru_ref, neg_int, ix_tup', ix_str', ix_ref', sl_tup', sl_str', sl_ref', rev_tup', part_int, walk_tup, walk_ref, walk_str, rng_1, rng_2, set_ref, aug_add, aug_sub, rg_1, rg_2, atI_0, atI_1, atI_2, ixN3_0, ixN3_1, ixN3_2, ex_lst, DS.put_same, lstAt_put, g1, g4, g7, g8, v1, v4]
  refine ⟨v, rfl, hv, fun h => ?_, fun h => eE_same (q2 h)⟩
  obtain ⟨is, rfl, hs⟩ := short_ex h
  have q := q1 is rfl hs
  clear q1 q2
  cases x with
  | non =>
    simp only [isNon, if_true]
    refine ⟨is, rfl, hs.1, ?_⟩
    show fgtQ S Q (.bl (isNon (tD (lastT (M2.turns is))))) S
    rw [isNon_tD]
    exact fgtQ_same q
  | tup ds =>
    simp only [isNon, Bool.false_eq_true, if_false]
    refine ⟨_, rfl, hx.tyT, ?_⟩
    cases hw : ds.all isWholeD with
    | false =>
      have e : showsB is (.tup ds) = false := by simp [showsB, threeB, hw]
      rw [e] at q
      simp only [allWhole, hw, wpSs, DL.wpS, wpE, wpX, star_tup, star_ref, wpEs, wpEn, wpO, wpCh, wpB, wpBs, wpBo, wpI, wpT, wpTs, boolOf, startR, CTs.len, CEs.len, CEs.isNil, upto_ff, upto_tt, List.length_cons, List.length_nil, List.map_cons, List.map_nil, List.replicate, List.cons_append, List.nil_append, List.append_nil, List.set_cons_zero, List.set_cons_succ, bind_some, bind_none, getV_nil, getV_0s, getV_0n, getV_s, if_true, if_false, Bool.false_eq_true, ite_self, true_and, and_true, blt_len, blt_abs, blt_max, blt_min, blt_sum, blt_all, blt_any, blt_repr, blt_isi, lst_ref, len_tup, len_str, len_ref, bty_int, bty_bool, bty_str, bty_strs, bty_tup, bty_tupl, bty_lst, bty_lstl, bin_add, bin_sub, bin_mul, bin_div, bin_mod, bin_pow, bin_adds, bin_addt, bin_mult, bin_addl, cmp_lt, cmp_le, cmp_gt, cmp_ge, cmp_eq, cmp_ne, cmp_eqs, cmp_nes, cmp_eqt, cmp_net, cmp_is, cmp_isn, tru_non, tru_bl', tru_int, tru_str, tru_tup, tru_ref, neg_int, ix_tup', ix_str', ix_ref', sl_tup', sl_str', sl_ref', rev_tup', part_int, walk_tup, walk_ref, walk_str, rng_1, rng_2, set_ref, aug_add, aug_sub, rg_1, rg_2, atI_0, atI_1, atI_2, ixN3_0, ixN3_1, ixN3_2, ex_lst, DS.put_same, lstAt_put]
      exact fgtQ_same q
    | true =>
      obtain ⟨js, rfl, e2, hb⟩ := ints_of hx hw
      have e : showsB is (.tup (js.map D.int)) = (decide (js.length = 3) && decide (M2.turns (is ++ js) = less)) := by
        unfold showsB threeB
        simp only [hw, e2, List.length_map, Bool.true_and]
      rw [e] at q
      simp only [allWhole, hw, wpSs, DL.wpS, wpE, wpX, star_tup, star_ref, wpEs, wpEn, wpO, wpCh, wpB, wpBs, wpBo, wpI, wpT, wpTs, boolOf, startR, CTs.len, CEs.len, CEs.isNil, upto_ff, upto_tt, List.length_cons, List.length_nil, List.map_cons, List.map_nil, List.replicate, List.cons_append, List.nil_append, List.append_nil, List.set_cons_zero, List.set_cons_succ, bind_some, bind_none, getV_nil, getV_0s, getV_0n, getV_s, if_true, if_false, Bool.false_eq_true, ite_self, true_and, and_true, blt_len, blt_abs, blt_max, blt_min, blt_sum, blt_all, blt_any, blt_repr, blt_isi, lst_ref, len_tup, len_str, len_ref, bty_int, bty_bool, bty_str, bty_strs, bty_tup, bty_tupl, bty_lst, bty_lstl, bin_add, bin_sub, bin_mul, bin_div, bin_mod, bin_pow, bin_adds, bin_addt, bin_mult, bin_addl, cmp_lt, cmp_le, cmp_gt, cmp_ge, cmp_eq, cmp_ne, cmp_eqs, cmp_nes, cmp_eqt, cmp_net, cmp_is, cmp_isn, tru_non, tru_bl', tru_int, tru_str, tru_tup, tru_ref, neg_int, ix_tup', ix_str', ix_ref', sl_tup', sl_str', sl_ref', rev_tup', part_int, walk_tup, walk_ref, walk_str, rng_1, rng_2, set_ref, aug_add, aug_sub, rg_1, rg_2, atI_0, atI_1, atI_2, ixN3_0, ixN3_1, ixN3_2, ex_lst, DS.put_same, lstAt_put, List.length_map]
      by_cases hl : js.length = 3
      · rw [decide_eq_true (show (js.length : Int) = 3 by omega)]
        rw [decide_eq_true hl, Bool.true_and] at q
        simp only [if_true, intsD, star_tup, List.append_nil]
        refine ⟨by rw [List.length_append, List.length_map, List.length_map, sizeLine_eq]; have := hs.2; omega, useT2 hs hb hl ?_⟩
        exact cmp_M2 (fgtQ_same q)
      · rw [decide_eq_false (show ¬ (js.length : Int) = 3 by omega)]
        rw [decide_eq_false hl, Bool.false_and] at q
        simp only [Bool.false_eq_true, if_false]
        exact fgtQ_same q
  | _ =>
    simp only [isNon, Bool.false_eq_true, if_false]
    exact ⟨_, rfl, hx.tyT, fgtQ_same q⟩
end K02

namespace K02
open PySem DL LK
def c24 : FC := fun ds S Q _ => ∃ js n, ds = [intsD js] ∧ 1 ≤ n ∧ (∀ j ∈ js, bd n j) ∧ (n + 1) * js.length + n + 1 < 1000000 ∧ Q (.bl (decide (M2.turns js = less))) S
theorem w24 (G : GS) (Γ : Ga) (g19 : Γ.fn 19 = cTurnsG) : Keeps G Γ F24 c24 := by
  rintro ds S Q E ⟨js, n, rfl, hn, hj, hl, q⟩
  simp (config := {decide := true}) only [F24, wpSs, DL.wpS, wpE, wpX, star_tup, star_ref, wpEs, wpEn, wpO, wpCh, wpB, wpBs, wpBo, wpI, wpT, wpTs, boolOf, startR, CTs.len, CEs.len, CEs.isNil, upto_ff, upto_tt, List.length_cons, List.length_nil, List.map_cons, List.map_nil, List.replicate, List.cons_append, List.nil_append, List.append_nil, List.set_cons_zero, List.set_cons_succ, bind_some, bind_none, getV_nil, getV_0s, getV_0n, getV_s, if_true, if_false, Bool.false_eq_true, ite_self, true_and, and_true, blt_len, blt_abs, blt_max, blt_min, blt_sum, blt_all, blt_any, blt_repr, blt_isi, lst_ref, len_tup, len_str, len_ref, bty_int, bty_bool, bty_str, bty_strs, bty_tup, bty_tupl, bty_lst, bty_lstl, bin_add, bin_sub, bin_mul, bin_div, bin_mod, bin_pow, bin_adds, bin_addt, bin_mult, bin_addl, cmp_lt, cmp_le, cmp_gt, cmp_ge, cmp_eq, cmp_ne, cmp_eqs, cmp_nes, cmp_eqt, cmp_net, cmp_is, cmp_isn, tru_non, tru_bl', tru_int, tru_str, tru_tup, tru_ref, neg_int, ix_tup', ix_str', ix_ref', sl_tup', sl_str', sl_ref', rev_tup', part_int, walk_tup, walk_ref, walk_str, rng_1, rng_2, set_ref, aug_add, aug_sub, rg_1, rg_2, atI_0, atI_1, atI_2, ixN3_0, ixN3_1, ixN3_2, ex_lst, DS.put_same, lstAt_put, g19]
  refine ⟨js, n, rfl, hn, hj, hl, ?_⟩
  exact cmp_M2 (K := fun b => fgtQ S Q (.bl b) S) (y := less) (fgtQ_same q)
def c25 : FC := fun ds S Q _ => ∃ is x, ds = [intsD is, x] ∧ Short is ∧ Vd S x ∧ Q (.bl (threeB is x)) S
theorem w25 (G : GS) (Γ : Ga) (g20 : Γ.fn 20 = cIsWhole) (g24 : Γ.fn 24 = c24) : Keeps G Γ F25 c25 := by
  rintro ds S Q E ⟨is, x, rfl, hs, hx, q⟩
  have ht := hx.tyT
  simp (config := {decide := true}) only [F25, wpSs, DL.wpS, wpE, wpX, star_tup, star_ref, wpEs, wpEn, wpO, wpCh, wpB, wpBs, wpBo, wpI, wpT, wpTs, boolOf, startR, CTs.len, CEs.len, CEs.isNil, upto_ff, upto_tt, List.length_cons, List.length_nil, List.map_cons, List.map_nil, List.replicate, List.cons_append, List.nil_append, List.append_nil, List.set_cons_zero, List.set_cons_succ, bind_some, bind_none, getV_nil, getV_0s, getV_0n, getV_s, if_true, if_false, Bool.false_eq_true, ite_self, true_and, and_true, blt_len, blt_abs, blt_max, blt_min, blt_sum, blt_all, blt_any, blt_repr, blt_isi, lst_ref, len_tup, len_str, len_ref, bty_int, bty_bool, bty_str, bty_strs, bty_tup, bty_tupl, bty_lst, bty_lstl, bin_add, bin_sub, bin_mul, bin_div, bin_mod, bin_pow, bin_adds, bin_addt, bin_mult, bin_addl, cmp_lt, cmp_le, cmp_gt, cmp_ge, cmp_eq, cmp_ne, cmp_eqs, cmp_nes, cmp_eqt, cmp_net, cmp_is, cmp_isn, tru_non, tru_bl', tru_int, tru_str, tru_tup, tru_ref, neg_int, ix_tup', ix_str', ix_ref', sl_tup', sl_str', sl_ref', rev_tup', part_int, walk_tup, walk_ref, walk_str, rng_1, rng_2, set_ref, aug_add, aug_sub, rg_1, rg_2, atI_0, atI_1, atI_2, ixN3_0, ixN3_1, ixN3_2, ex_lst, DS.put_same, lstAt_put, ht.1.exc, isi_t ht.1, g20, g24, lcQ, wipeR]
  cases x with
  | tup ds =>
    obtain ⟨h1, h2⟩ := ht.2 ds rfl
    simp (config := {decide := true}) only [isTup, wpSs, DL.wpS, wpE, wpX, star_tup, star_ref, wpEs, wpEn, wpO, wpCh, wpB, wpBs, wpBo, wpI, wpT, wpTs, boolOf, startR, CTs.len, CEs.len, CEs.isNil, upto_ff, upto_tt, List.length_cons, List.length_nil, List.map_cons, List.map_nil, List.replicate, List.cons_append, List.nil_append, List.append_nil, List.set_cons_zero, List.set_cons_succ, bind_some, bind_none, getV_nil, getV_0s, getV_0n, getV_s, if_true, if_false, Bool.false_eq_true, ite_self, true_and, and_true, blt_len, blt_abs, blt_max, blt_min, blt_sum, blt_all, blt_any, blt_repr, blt_isi, lst_ref, len_tup, len_str, len_ref, bty_int, bty_bool, bty_str, bty_strs, bty_tup, bty_tupl, bty_lst, bty_lstl, bin_add, bin_sub, bin_mul, bin_div, bin_mod, bin_pow, bin_adds, bin_addt, bin_mult, bin_addl, cmp_lt, cmp_le, cmp_gt, cmp_ge, cmp_eq, cmp_ne, cmp_eqs, cmp_nes, cmp_eqt, cmp_net, cmp_is, cmp_isn, tru_non, tru_bl', tru_int, tru_str, tru_tup, tru_ref, neg_int, ix_tup', ix_str', ix_ref', sl_tup', sl_str', sl_ref', rev_tup', part_int, walk_tup, walk_ref, walk_str, rng_1, rng_2, set_ref, aug_add, aug_sub, rg_1, rg_2, atI_0, atI_1, atI_2, ixN3_0, ixN3_1, ixN3_2, ex_lst, DS.put_same, lstAt_put, Bool.not_true]
    by_cases hl : ds.length = 3
    · rw [decide_eq_true (show (ds.length : Int) = 3 by omega)]
      simp (config := {decide := true}) only [wpSs, DL.wpS, wpE, wpX, star_tup, star_ref, wpEs, wpEn, wpO, wpCh, wpB, wpBs, wpBo, wpI, wpT, wpTs, boolOf, startR, CTs.len, CEs.len, CEs.isNil, upto_ff, upto_tt, List.length_cons, List.length_nil, List.map_cons, List.map_nil, List.replicate, List.cons_append, List.nil_append, List.append_nil, List.set_cons_zero, List.set_cons_succ, bind_some, bind_none, getV_nil, getV_0s, getV_0n, getV_s, if_true, if_false, Bool.false_eq_true, ite_self, true_and, and_true, blt_len, blt_abs, blt_max, blt_min, blt_sum, blt_all, blt_any, blt_repr, blt_isi, lst_ref, len_tup, len_str, len_ref, bty_int, bty_bool, bty_str, bty_strs, bty_tup, bty_tupl, bty_lst, bty_lstl, bin_add, bin_sub, bin_mul, bin_div, bin_mod, bin_pow, bin_adds, bin_addt, bin_mult, bin_addl, cmp_lt, cmp_le, cmp_gt, cmp_ge, cmp_eq, cmp_ne, cmp_eqs, cmp_nes, cmp_eqt, cmp_net, cmp_is, cmp_isn, tru_non, tru_bl', tru_int, tru_str, tru_tup, tru_ref, neg_int, ix_tup', ix_str', ix_ref', sl_tup', sl_str', sl_ref', rev_tup', part_int, walk_tup, walk_ref, walk_str, rng_1, rng_2, set_ref, aug_add, aug_sub, rg_1, rg_2, atI_0, atI_1, atI_2, ixN3_0, ixN3_1, ixN3_2, ex_lst, DS.put_same, lstAt_put, Bool.not_true]
      refine ⟨h1, lcS_map (fun d => .bl (isWholeD d)) trivial (fun d hd R R0 r => ?_) fun p hp => ?_⟩
      · simp (config := {decide := true}) only [wpSs, DL.wpS, wpE, wpX, star_tup, star_ref, wpEs, wpEn, wpO, wpCh, wpB, wpBs, wpBo, wpI, wpT, wpTs, boolOf, startR, CTs.len, CEs.len, CEs.isNil, upto_ff, upto_tt, List.length_cons, List.length_nil, List.map_cons, List.map_nil, List.replicate, List.cons_append, List.nil_append, List.append_nil, List.set_cons_zero, List.set_cons_succ, bind_some, bind_none, getV_nil, getV_0s, getV_0n, getV_s, if_true, if_false, Bool.false_eq_true, ite_self, true_and, and_true, blt_len, blt_abs, blt_max, blt_min, blt_sum, blt_all, blt_any, blt_repr, blt_isi, lst_ref, len_tup, len_str, len_ref, bty_int, bty_bool, bty_str, bty_strs, bty_tup, bty_tupl, bty_lst, bty_lstl, bin_add, bin_sub, bin_mul, bin_div, bin_mod, bin_pow, bin_adds, bin_addt, bin_mult, bin_addl, cmp_lt, cmp_le, cmp_gt, cmp_ge, cmp_eq, cmp_ne, cmp_eqs, cmp_nes, cmp_eqt, cmp_net, cmp_is, cmp_isn, tru_non, tru_bl', tru_int, tru_str, tru_tup, tru_ref, neg_int, ix_tup', ix_str', ix_ref', sl_tup', sl_str', sl_ref', rev_tup', part_int, walk_tup, walk_ref, walk_str, rng_1, rng_2, set_ref, aug_add, aug_sub, rg_1, rg_2, atI_0, atI_1, atI_2, ixN3_0, ixN3_1, ixN3_2, ex_lst, DS.put_same, lstAt_put]
        exact ⟨d, rfl, h2 d hd, r⟩
      · simp only [List.nil_append, lstAt_put, bind_some, boolsOf_map (fun _ _ => rfl), List.all_map]
        have ea : (ds.all (id ∘ isWholeD)) = ds.all isWholeD := rfl
        rw [ea]
        cases hw : ds.all isWholeD with
        | false =>
          have e : threeB is (.tup ds) = false := by simp [threeB, hw]
          rw [e] at q
          simp only [wpSs, DL.wpS, wpE, wpX, star_tup, star_ref, wpEs, wpEn, wpO, wpCh, wpB, wpBs, wpBo, wpI, wpT, wpTs, boolOf, startR, CTs.len, CEs.len, CEs.isNil, upto_ff, upto_tt, List.length_cons, List.length_nil, List.map_cons, List.map_nil, List.replicate, List.cons_append, List.nil_append, List.append_nil, List.set_cons_zero, List.set_cons_succ, bind_some, bind_none, getV_nil, getV_0s, getV_0n, getV_s, if_true, if_false, Bool.false_eq_true, ite_self, true_and, and_true, blt_len, blt_abs, blt_max, blt_min, blt_sum, blt_all, blt_any, blt_repr, blt_isi, lst_ref, len_tup, len_str, len_ref, bty_int, bty_bool, bty_str, bty_strs, bty_tup, bty_tupl, bty_lst, bty_lstl, bin_add, bin_sub, bin_mul, bin_div, bin_mod, bin_pow, bin_adds, bin_addt, bin_mult, bin_addl, cmp_lt, cmp_le, cmp_gt, cmp_ge, cmp_eq, cmp_ne, cmp_eqs, cmp_nes, cmp_eqt, cmp_net, cmp_is, cmp_isn, tru_non, tru_bl', tru_int, tru_str, tru_tup, tru_ref, neg_int, ix_tup', ix_str', ix_ref', sl_tup', sl_str', sl_ref', rev_tup', part_int, walk_tup, walk_ref, walk_str, rng_1, rng_2, set_ref, aug_add, aug_sub, rg_1, rg_2, atI_0, atI_1, atI_2, ixN3_0, ixN3_1, ixN3_2, ex_lst, DS.put_same, lstAt_put, Bool.not_false]
          exact fgtQ_le (put_le hp) q
        | true =>
          obtain ⟨js, rfl, e2, hb⟩ := ints_of hx hw
          have hl : js.length = 3 := by rw [List.length_map] at hl; exact hl
          have e : threeB is (.tup (js.map D.int)) = decide (M2.turns (is ++ js) = less) := by
            unfold threeB
            simp only [hw, e2, List.length_map, hl, decide_true, Bool.true_and]
          rw [e] at q
          simp only [wpSs, DL.wpS, wpE, wpX, star_tup, star_ref, wpEs, wpEn, wpO, wpCh, wpB, wpBs, wpBo, wpI, wpT, wpTs, boolOf, startR, CTs.len, CEs.len, CEs.isNil, upto_ff, upto_tt, List.length_cons, List.length_nil, List.map_cons, List.map_nil, List.replicate, List.cons_append, List.nil_append, List.append_nil, List.set_cons_zero, List.set_cons_succ, bind_some, bind_none, getV_nil, getV_0s, getV_0n, getV_s, if_true, if_false, Bool.false_eq_true, ite_self, true_and, and_true, blt_len, blt_abs, blt_max, blt_min, blt_sum, blt_all, blt_any, blt_repr, blt_isi, lst_ref, len_tup, len_str, len_ref, bty_int, bty_bool, bty_str, bty_strs, bty_tup, bty_tupl, bty_lst, bty_lstl, bin_add, bin_sub, bin_mul, bin_div, bin_mod, bin_pow, bin_adds, bin_addt, bin_mult, bin_addl, cmp_lt, cmp_le, cmp_gt, cmp_ge, cmp_eq, cmp_ne, cmp_eqs, cmp_nes, cmp_eqt, cmp_net, cmp_is, cmp_isn, tru_non, tru_bl', tru_int, tru_str, tru_tup, tru_ref, neg_int, ix_tup', ix_str', ix_ref', sl_tup', sl_str', sl_ref', rev_tup', part_int, walk_tup, walk_ref, walk_str, rng_1, rng_2, set_ref, aug_add, aug_sub, rg_1, rg_2, atI_0, atI_1, atI_2, ixN3_0, ixN3_1, ixN3_2, ex_lst, DS.put_same, lstAt_put, Bool.not_true, intsD, bin_addt]
          refine ⟨by rw [List.length_map, List.length_map, sizeLine_eq]; have := hs.2; omega, is ++ js, 12000, by rw [intsD, List.map_append], by decide, fun i hi => ?_, ?_, fgtQ_le (put_le hp) q⟩
          · rcases List.mem_append.mp hi with hi | hi
            · exact DL.bd.mono (hs.1.sm i hi) (by decide)
            · exact hb i hi
          · rw [List.length_append, hl]
            have := hs.2
            omega
    · rw [decide_eq_false (show ¬ (ds.length : Int) = 3 by omega)]
      have e : threeB is (.tup ds) = false := by simp [threeB, hl]
      rw [e] at q
      simp (config := {decide := true}) only [wpSs, DL.wpS, wpE, wpX, star_tup, star_ref, wpEs, wpEn, wpO, wpCh, wpB, wpBs, wpBo, wpI, wpT, wpTs, boolOf, startR, CTs.len, CEs.len, CEs.isNil, upto_ff, upto_tt, List.length_cons, List.length_nil, List.map_cons, List.map_nil, List.replicate, List.cons_append, List.nil_append, List.append_nil, List.set_cons_zero, List.set_cons_succ, bind_some, bind_none, getV_nil, getV_0s, getV_0n, getV_s, if_true, if_false, Bool.false_eq_true, ite_self, true_and, and_true, blt_len, blt_abs, blt_max, blt_min, blt_sum, blt_all, blt_any, blt_repr, blt_isi, lst_ref, len_tup, len_str, len_ref, bty_int, bty_bool, bty_str, bty_strs, bty_tup, bty_tupl, bty_lst, bty_lstl, bin_add, bin_sub, bin_mul, bin_div, bin_mod, bin_pow, bin_adds, bin_addt, bin_mult, bin_addl, cmp_lt, cmp_le, cmp_gt, cmp_ge, cmp_eq, cmp_ne, cmp_eqs, cmp_nes, cmp_eqt, cmp_net, cmp_is, cmp_isn, tru_non, tru_bl', tru_int, tru_str, tru_tup, tru_ref, neg_int, ix_tup', ix_str', ix_ref', sl_tup', sl_str', sl_ref', rev_tup', part_int, walk_tup, walk_ref, walk_str, rng_1, rng_2, set_ref, aug_add, aug_sub, rg_1, rg_2, atI_0, atI_1, atI_2, ixN3_0, ixN3_1, ixN3_2, ex_lst, DS.put_same, lstAt_put, Bool.not_false]
      exact fgtQ_same q
  | _ => exact fgtQ_same q
def c26 : FC := fun ds S Q _ => ∃ is, ds = [intsD is] ∧ Row is ∧ Q (.bl (lastT (M2.turns is)).isSome) S
theorem w26 (G : GS) (Γ : Ga) (g19 : Γ.fn 19 = cTurnsG) : Keeps G Γ F26 c26 := by
  rintro ds S Q E ⟨is, rfl, hr, q⟩
  have hd := M2.det_turns is
  simp (config := {decide := true}) only [F26, wpSs, DL.wpS, wpE, wpX, star_tup, star_ref, wpEs, wpEn, wpO, wpCh, wpB, wpBs, wpBo, wpI, wpT, wpTs, boolOf, startR, CTs.len, CEs.len, CEs.isNil, upto_ff, upto_tt, List.length_cons, List.length_nil, List.map_cons, List.map_nil, List.replicate, List.cons_append, List.nil_append, List.append_nil, List.set_cons_zero, List.set_cons_succ, bind_some, bind_none, getV_nil, getV_0s, getV_0n, getV_s, if_true, if_false, Bool.false_eq_true, ite_self, true_and, and_true, blt_len, blt_abs, blt_max, blt_min, blt_sum, blt_all, blt_any, blt_repr, blt_isi, lst_ref, len_tup, len_str, len_ref, bty_int, bty_bool, bty_str, bty_strs, bty_tup, bty_tupl, bty_lst, bty_lstl, bin_add, bin_sub, bin_mul, bin_div, bin_mod, bin_pow, bin_adds, bin_addt, bin_mult, bin_addl, cmp_lt, cmp_le, cmp_gt, cmp_ge, cmp_eq, cmp_ne, cmp_eqs, cmp_nes, cmp_eqt, cmp_net, cmp_is, cmp_isn, tru_non, tru_bl', tru_int, tru_str, tru_tup, tru_ref, neg_int, ix_tup', ix_str', ix_ref', sl_tup', sl_str', sl_ref', rev_tup', part_int, walk_tup, walk_ref, walk_str, rng_1, rng_2, set_ref, aug_add, aug_sub, rg_1, rg_2, atI_0, atI_1, atI_2, ixN3_0, ixN3_1, ixN3_2, ex_lst, DS.put_same, lstAt_put, g19]
  refine useT hr ?_
  simp (config := {decide := true}) only [M2.toD, wpSs, DL.wpS, wpE, wpX, star_tup, star_ref, wpEs, wpEn, wpO, wpCh, wpB, wpBs, wpBo, wpI, wpT, wpTs, boolOf, startR, CTs.len, CEs.len, CEs.isNil, upto_ff, upto_tt, List.length_cons, List.length_nil, List.map_cons, List.map_nil, List.replicate, List.cons_append, List.nil_append, List.append_nil, List.set_cons_zero, List.set_cons_succ, bind_some, bind_none, getV_nil, getV_0s, getV_0n, getV_s, if_true, if_false, Bool.false_eq_true, ite_self, true_and, and_true, blt_len, blt_abs, blt_max, blt_min, blt_sum, blt_all, blt_any, blt_repr, blt_isi, lst_ref, len_tup, len_str, len_ref, bty_int, bty_bool, bty_str, bty_strs, bty_tup, bty_tupl, bty_lst, bty_lstl, bin_add, bin_sub, bin_mul, bin_div, bin_mod, bin_pow, bin_adds, bin_addt, bin_mult, bin_addl, cmp_lt, cmp_le, cmp_gt, cmp_ge, cmp_eq, cmp_ne, cmp_eqs, cmp_nes, cmp_eqt, cmp_net, cmp_is, cmp_isn, tru_non, tru_bl', tru_int, tru_str, tru_tup, tru_ref, neg_int, ix_tup', ix_str', ix_ref', sl_tup', sl_str', sl_ref', rev_tup', part_int, walk_tup, walk_ref, walk_str, rng_1, rng_2, set_ref, aug_add, aug_sub, rg_1, rg_2, atI_0, atI_1, atI_2, ixN3_0, ixN3_1, ixN3_2, ex_lst, DS.put_same, lstAt_put]
  unfold lastT at q
  unfold M2.det at hd
  generalize M2.turns is = m at q hd ⊢
  by_cases h0 : m.a = 0
  · rw [if_pos h0] at q
    simp only [h0, decide_true, if_true]
    by_cases h1 : m.b = 1
    · rw [if_pos h1] at q
      have hc : m.c = -1 := by rw [h0, h1] at hd; omega
      simp only [h1, hc, decide_true, if_true]
      exact fgtQ_same q
    · rw [if_neg h1] at q
      simp only [h1, decide_false, Bool.false_eq_true, if_false]
      exact fgtQ_same q
  · rw [if_neg h0] at q
    simp only [h0, decide_false, Bool.false_eq_true, if_false]
    refine ⟨h0, ?_⟩
    by_cases h1 : (1 - m.b).fmod m.a = 0
    · simp only [h1, decide_true, if_true]
      refine ⟨h0, ?_⟩
      by_cases h2 : (1 + m.c).fmod m.a = 0
      · rw [if_pos ⟨h1, h2⟩] at q
        simp only [h2, decide_true]
        exact fgtQ_same q
      · rw [if_neg (fun z => h2 z.2)] at q
        simp only [h2, decide_false]
        exact fgtQ_same q
    · rw [if_neg (fun z => h1 z.1)] at q
      simp only [h1, decide_false, Bool.false_eq_true, if_false]
      exact fgtQ_same q
end K02

namespace K02
open PySem DL LK
/-! ### drawn rows -/
theorem w21 (G : GS) (Γ : Ga) (g11 : Γ.fn 11 = cTake) : Keeps G Γ F21 cCut := by
  rintro ds S Q E ⟨a, n, m, rfl, hm2, hm, hp, q⟩
  simp (config := {decide := true}) only [F21, wpSs, DL.wpS, wpE, wpX, star_tup, star_ref, wpEs, wpEn, wpO, wpCh, wpB, wpBs, wpBo, wpI, wpT, wpTs, boolOf, startR, CTs.len, CEs.len, CEs.isNil, upto_ff, upto_tt, List.length_cons, List.length_nil, List.map_cons, List.map_nil, List.replicate, List.cons_append, List.nil_append, List.append_nil, List.set_cons_zero, List.set_cons_succ, bind_some, bind_none, getV_nil, getV_0s, getV_0n, getV_s, if_true, if_false, Bool.false_eq_true, ite_self, true_and, and_true, blt_len, blt_abs, blt_max, blt_min, blt_sum, blt_all, blt_any, blt_repr, blt_isi, lst_ref, len_tup, len_str, len_ref, bty_int, bty_bool, bty_str, bty_strs, bty_tup, bty_tupl, bty_lst, bty_lstl, bin_add, bin_sub, bin_mul, bin_div, bin_mod, bin_pow, bin_adds, bin_addt, bin_mult, bin_addl, cmp_lt, cmp_le, cmp_gt, cmp_ge, cmp_eq, cmp_ne, cmp_eqs, cmp_nes, cmp_eqt, cmp_net, cmp_is, cmp_isn, tru_non, tru_bl', tru_int, tru_str, tru_tup, tru_ref, neg_int, ix_tup', ix_str', ix_ref', sl_tup', sl_str', sl_ref', rev_tup', part_int, walk_tup, walk_ref, walk_str, rng_1, rng_2, set_ref, aug_add, aug_sub, rg_1, rg_2, atI_0, atI_1, atI_2, ixN3_0, ixN3_1, ixN3_2, ex_lst, DS.put_same, lstAt_put, g11]
  intro f hf w hw
  have sz : sizeLine = 16777216 := sizeLine_eq
  rw [put_none] at hw
  have ne : S.mem a ≠ none := hp.ne
  have haf : a ≠ f := fun z => ne (z ▸ hf)
  have haw : a ≠ w := fun z => ne (z ▸ hw.2)
  have hfw : f ≠ w := fun z => hw.1 z.symm
  refine whileS_ind (fun k ρ S' => ∃ ws fs : List (Int × Int), ρ = [some (.ref a), some (.int m), some (.ref f), some (.ref w), none, none, none, none] ∧ Fr a S S' ∧ Pot S' a (n + wid ws) ∧ S'.mem w = some (.lst (ws.map pairD)) ∧ S'.mem f = some (.lst (fs.map pairD)) ∧
    (∀ p ∈ ws, 0 ≤ p.1 ∧ p.1 < p.2 ∧ p.2 < m) ∧ (∀ p ∈ fs, 0 ≤ p.1 ∧ p.1 < p.2 ∧ p.2 < m) ∧ fs.length + wid ws ≤ m ∧ k = mu ws ∧ k ≤ 2 * m) (fun k ρ S' h N hN => ?_) (n := mu [(0, (m : Int) - 1)])
    ⟨[(0, (m : Int) - 1)], [], rfl, (Fr.new (m := .lst []) hf).trans (Fr.new (by rw [put_none]; exact hw)), ?_, by rw [DS.put_same]; rfl, by rw [DS.put_ne hfw, DS.put_same]; rfl, fun p hp => ?_, by simp, ?_, rfl, ?_⟩
  · obtain ⟨ws, fs, rfl, fr, pt, hW, hF, hws, hfs, hl, rfl, hk⟩ := h
    simp (config := {decide := true}) only [wpSs, DL.wpS, wpE, wpX, star_tup, star_ref, wpEs, wpEn, wpO, wpCh, wpB, wpBs, wpBo, wpI, wpT, wpTs, boolOf, startR, CTs.len, CEs.len, CEs.isNil, upto_ff, upto_tt, List.length_cons, List.length_nil, List.map_cons, List.map_nil, List.replicate, List.cons_append, List.nil_append, List.append_nil, List.set_cons_zero, List.set_cons_succ, bind_some, bind_none, getV_nil, getV_0s, getV_0n, getV_s, if_true, if_false, Bool.false_eq_true, ite_self, true_and, and_true, blt_len, blt_abs, blt_max, blt_min, blt_sum, blt_all, blt_any, blt_repr, blt_isi, lst_ref, len_tup, len_str, len_ref, bty_int, bty_bool, bty_str, bty_strs, bty_tup, bty_tupl, bty_lst, bty_lstl, bin_add, bin_sub, bin_mul, bin_div, bin_mod, bin_pow, bin_adds, bin_addt, bin_mult, bin_addl, cmp_lt, cmp_le, cmp_gt, cmp_ge, cmp_eq, cmp_ne, cmp_eqs, cmp_nes, cmp_eqt, cmp_net, cmp_is, cmp_isn, tru_non, tru_bl', tru_int, tru_str, tru_tup, tru_ref, neg_int, ix_tup', ix_str', ix_ref', sl_tup', sl_str', sl_ref', rev_tup', part_int, walk_tup, walk_ref, walk_str, rng_1, rng_2, set_ref, aug_add, aug_sub, rg_1, rg_2, atI_0, atI_1, atI_2, ixN3_0, ixN3_1, ixN3_2, ex_lst, DS.put_same, lstAt_put]
    intro p1 hp1
    have hwp : w ≠ p1 := fun z => by subst z; rw [hW] at hp1; cases hp1
    have hfp : f ≠ p1 := fun z => by subst z; rw [hF] at hp1; cases hp1
    have hW1 : (S'.put p1 (MO.lst [])).mem w = some (.lst (ws.map pairD)) := by rw [DS.put_ne hwp]; exact hW
    have hF1 : (S'.put p1 (MO.lst [])).mem f = some (.lst (fs.map pairD)) := by rw [DS.put_ne hfp]; exact hF
    have fr1 : Fr a S (S'.put p1 (MO.lst [])) := fr.trans (Fr.new hp1)
    have pt1 : Pot (S'.put p1 (MO.lst [])) a (n + wid ws) := pt.new hp1
    refine cmp_pairs_nil hW1 DS.put_same ?_
    generalize S'.put p1 (MO.lst []) = S1 at hW1 hF1 fr1 pt1 ⊢
    have newW : S.mem w = none := hw.2
    rcases List.eq_nil_or_concat ws with rfl | ⟨vs, p, rfl⟩
    · simp (config := {decide := true}) only [List.isEmpty, Bool.not_true, wpSs, DL.wpS, wpE, wpX, star_tup, star_ref, wpEs, wpEn, wpO, wpCh, wpB, wpBs, wpBo, wpI, wpT, wpTs, boolOf, startR, CTs.len, CEs.len, CEs.isNil, upto_ff, upto_tt, List.length_cons, List.length_nil, List.map_cons, List.map_nil, List.replicate, List.cons_append, List.nil_append, List.append_nil, List.set_cons_zero, List.set_cons_succ, bind_some, bind_none, getV_nil, getV_0s, getV_0n, getV_s, if_true, if_false, Bool.false_eq_true, ite_self, true_and, and_true, blt_len, blt_abs, blt_max, blt_min, blt_sum, blt_all, blt_any, blt_repr, blt_isi, lst_ref, len_tup, len_str, len_ref, bty_int, bty_bool, bty_str, bty_strs, bty_tup, bty_tupl, bty_lst, bty_lstl, bin_add, bin_sub, bin_mul, bin_div, bin_mod, bin_pow, bin_adds, bin_addt, bin_mult, bin_addl, cmp_lt, cmp_le, cmp_gt, cmp_ge, cmp_eq, cmp_ne, cmp_eqs, cmp_nes, cmp_eqt, cmp_net, cmp_is, cmp_isn, tru_non, tru_bl', tru_int, tru_str, tru_tup, tru_ref, neg_int, ix_tup', ix_str', ix_ref', sl_tup', sl_str', sl_ref', rev_tup', part_int, walk_tup, walk_ref, walk_str, rng_1, rng_2, set_ref, aug_add, aug_sub, rg_1, rg_2, atI_0, atI_1, atI_2, ixN3_0, ixN3_1, ixN3_2, ex_lst, DS.put_same, lstAt_put, lcQ, wipeR, lstAt_lst hF1]
      refine ⟨?_, ?_⟩
      · rw [List.length_map, sz]; omega
      · refine lcS_filter (onPair fun p => !decide (p = (0, (m : Int) - 1))) id (by exact lstAt_lst hF1) (fun d hd R R0 r1 r0 => ?_) ?_
        · obtain ⟨p, hp, rfl⟩ := List.mem_map.mp hd
          simp (config := {decide := true}) only [wpSs, DL.wpS, wpE, wpX, star_tup, star_ref, wpEs, wpEn, wpO, wpCh, wpB, wpBs, wpBo, wpI, wpT, wpTs, boolOf, startR, CTs.len, CEs.len, CEs.isNil, upto_ff, upto_tt, List.length_cons, List.length_nil, List.map_cons, List.map_nil, List.replicate, List.cons_append, List.nil_append, List.append_nil, List.set_cons_zero, List.set_cons_succ, bind_some, bind_none, getV_nil, getV_0s, getV_0n, getV_s, if_true, if_false, Bool.false_eq_true, ite_self, true_and, and_true, blt_len, blt_abs, blt_max, blt_min, blt_sum, blt_all, blt_any, blt_repr, blt_isi, lst_ref, len_tup, len_str, len_ref, bty_int, bty_bool, bty_str, bty_strs, bty_tup, bty_tupl, bty_lst, bty_lstl, bin_add, bin_sub, bin_mul, bin_div, bin_mod, bin_pow, bin_adds, bin_addt, bin_mult, bin_addl, cmp_lt, cmp_le, cmp_gt, cmp_ge, cmp_eq, cmp_ne, cmp_eqs, cmp_nes, cmp_eqt, cmp_net, cmp_is, cmp_isn, tru_non, tru_bl', tru_int, tru_str, tru_tup, tru_ref, neg_int, ix_tup', ix_str', ix_ref', sl_tup', sl_str', sl_ref', rev_tup', part_int, walk_tup, walk_ref, walk_str, rng_1, rng_2, set_ref, aug_add, aug_sub, rg_1, rg_2, atI_0, atI_1, atI_2, ixN3_0, ixN3_1, ixN3_2, ex_lst, DS.put_same, lstAt_put]
          have e : onPair (fun p => !decide (p = (0, (m : Int) - 1))) (pairD p) = !decide (p = (0, (m : Int) - 1)) := rfl
          rw [e] at r1 r0
          refine cmp_pair_ne (q := (0, (m : Int) - 1)) ?_
          cases h : decide (p = (0, (m : Int) - 1)) with
          | true =>
            rw [h] at r0
            exact r0 rfl
          | false =>
            rw [h] at r1
            exact r1 rfl
        · intro p2 hp2
          rw [List.nil_append, List.map_id]
          rw [onPair_map]
          have hsub : (fs.filter fun p => !decide (p = (0, (m : Int) - 1))).Sublist fs := List.filter_sublist
          generalize (fs.filter fun p => !decide (p = (0, (m : Int) - 1))) = gs at hsub ⊢
          have l2 : lstAt ((S1.back S1).put p2 (MO.lst (gs.map pairD))) p2 = some (gs.map pairD) := lstAt_put
          have fr2 : Fr a S ((S1.back S1).put p2 (MO.lst (gs.map pairD))) := fr1.trans (Fr.new (S := S1.back S1) hp2)
          have pt2 : Pot ((S1.back S1).put p2 (MO.lst (gs.map pairD))) a n := (pt1.less (by omega)).new (S := S1.back S1) hp2
          generalize (S1.back S1).put p2 (MO.lst (gs.map pairD)) = S2 at l2 fr2 pt2 ⊢
          simp only [bltS, lst_ref, l2, bind_some]
          refine .inr (.inl ⟨gs, rfl, fun qs hq _ p3 hp3 => ?_⟩)
          simp (config := {decide := true}) only [wpSs, DL.wpS, wpE, wpX, star_tup, star_ref, wpEs, wpEn, wpO, wpCh, wpB, wpBs, wpBo, wpI, wpT, wpTs, boolOf, startR, CTs.len, CEs.len, CEs.isNil, upto_ff, upto_tt, List.length_cons, List.length_nil, List.map_cons, List.map_nil, List.replicate, List.cons_append, List.nil_append, List.append_nil, List.set_cons_zero, List.set_cons_succ, bind_some, bind_none, getV_nil, getV_0s, getV_0n, getV_s, if_true, if_false, Bool.false_eq_true, ite_self, true_and, and_true, blt_len, blt_abs, blt_max, blt_min, blt_sum, blt_all, blt_any, blt_repr, blt_isi, lst_ref, len_tup, len_str, len_ref, bty_int, bty_bool, bty_str, bty_strs, bty_tup, bty_tupl, bty_lst, bty_lstl, bin_add, bin_sub, bin_mul, bin_div, bin_mod, bin_pow, bin_adds, bin_addt, bin_mult, bin_addl, cmp_lt, cmp_le, cmp_gt, cmp_ge, cmp_eq, cmp_ne, cmp_eqs, cmp_nes, cmp_eqt, cmp_net, cmp_is, cmp_isn, tru_non, tru_bl', tru_int, tru_str, tru_tup, tru_ref, neg_int, ix_tup', ix_str', ix_ref', sl_tup', sl_str', sl_ref', rev_tup', part_int, walk_tup, walk_ref, walk_str, rng_1, rng_2, set_ref, aug_add, aug_sub, rg_1, rg_2, atI_0, atI_1, atI_2, ixN3_0, ixN3_1, ixN3_2, ex_lst, DS.put_same, lstAt_put]
          refine fgtQ_to ?_
          rw [(fr2.trans (Fr.new hp3)).back]
          refine q qs _ (fr2.trans (Fr.new hp3)) (pt2.new hp3) ?_ fun x hx => hfs x (hsub.subset (hq.mem_iff.mp hx))
          have := hq.length_eq
          have := hsub.length_le
          omega
    · simp only [List.concat_eq_append] at *
      have e0 : (vs ++ [p]).isEmpty = false := by cases vs <;> rfl
      rw [e0]
      rw [List.map_append] at hW1
      obtain ⟨lo, hi⟩ := p
      obtain ⟨h1, h2, h3⟩ := hws (lo, hi) (by simp)
      simp only at h1 h2 h3
      simp (config := {decide := true}) only [wpSs, DL.wpS, wpE, wpX, star_tup, star_ref, wpEs, wpEn, wpO, wpCh, wpB, wpBs, wpBo, wpI, wpT, wpTs, boolOf, startR, CTs.len, CEs.len, CEs.isNil, upto_ff, upto_tt, List.length_cons, List.length_nil, List.map_cons, List.map_nil, List.replicate, List.cons_append, List.nil_append, List.append_nil, List.set_cons_zero, List.set_cons_succ, bind_some, bind_none, getV_nil, getV_0s, getV_0n, getV_s, if_true, if_false, Bool.false_eq_true, ite_self, true_and, and_true, blt_len, blt_abs, blt_max, blt_min, blt_sum, blt_all, blt_any, blt_repr, blt_isi, lst_ref, len_tup, len_str, len_ref, bty_int, bty_bool, bty_str, bty_strs, bty_tup, bty_tupl, bty_lst, bty_lstl, bin_add, bin_sub, bin_mul, bin_div, bin_mod, bin_pow, bin_adds, bin_addt, bin_mult, bin_addl, cmp_lt, cmp_le, cmp_gt, cmp_ge, cmp_eq, cmp_ne, cmp_eqs, cmp_nes, cmp_eqt, cmp_net, cmp_is, cmp_isn, tru_non, tru_bl', tru_int, tru_str, tru_tup, tru_ref, neg_int, ix_tup', ix_str', ix_ref', sl_tup', sl_str', sl_ref', rev_tup', part_int, walk_tup, walk_ref, walk_str, rng_1, rng_2, set_ref, aug_add, aug_sub, rg_1, rg_2, atI_0, atI_1, atI_2, ixN3_0, ixN3_1, ixN3_2, ex_lst, DS.put_same, lstAt_put, Bool.not_false, met_pop hW1]
      refine mets_pop hW1 ?_
      simp (config := {decide := true}) only [pairD, wpSs, DL.wpS, wpE, wpX, star_tup, star_ref, wpEs, wpEn, wpO, wpCh, wpB, wpBs, wpBo, wpI, wpT, wpTs, boolOf, startR, CTs.len, CEs.len, CEs.isNil, upto_ff, upto_tt, List.length_cons, List.length_nil, List.map_cons, List.map_nil, List.replicate, List.cons_append, List.nil_append, List.append_nil, List.set_cons_zero, List.set_cons_succ, bind_some, bind_none, getV_nil, getV_0s, getV_0n, getV_s, if_true, if_false, Bool.false_eq_true, ite_self, true_and, and_true, blt_len, blt_abs, blt_max, blt_min, blt_sum, blt_all, blt_any, blt_repr, blt_isi, lst_ref, len_tup, len_str, len_ref, bty_int, bty_bool, bty_str, bty_strs, bty_tup, bty_tupl, bty_lst, bty_lstl, bin_add, bin_sub, bin_mul, bin_div, bin_mod, bin_pow, bin_adds, bin_addt, bin_mult, bin_addl, cmp_lt, cmp_le, cmp_gt, cmp_ge, cmp_eq, cmp_ne, cmp_eqs, cmp_nes, cmp_eqt, cmp_net, cmp_is, cmp_isn, tru_non, tru_bl', tru_int, tru_str, tru_tup, tru_ref, neg_int, ix_tup', ix_str', ix_ref', sl_tup', sl_str', sl_ref', rev_tup', part_int, walk_tup, walk_ref, walk_str, rng_1, rng_2, set_ref, aug_add, aug_sub, rg_1, rg_2, atI_0, atI_1, atI_2, ixN3_0, ixN3_1, ixN3_2, ex_lst, DS.put_same, lstAt_put]
      have hW2 : (S1.put w (MO.lst (vs.map pairD))).mem w = some (.lst (vs.map pairD)) := DS.put_same
      have hF2 : (S1.put w (MO.lst (vs.map pairD))).mem f = some (.lst (fs.map pairD)) := by rw [DS.put_ne hfw]; exact hF1
      have fr2 : Fr a S (S1.put w (MO.lst (vs.map pairD))) := ⟨fun b o n e => by
        have : b ≠ w := fun z => by subst z; rw [newW] at e; cases e
        rw [DS.put_ne this]; exact fr1.mem b o n e, fr1.lam, fun e => by rw [DS.put_ne haw]; exact fr1.at_ e⟩
      have pt2 : Pot (S1.put w (MO.lst (vs.map pairD))) a (n + wid (vs ++ [(lo, hi)])) := by
        obtain ⟨o, m1, l, e, k⟩ := pt1
        exact ⟨o, m1, l, by rw [DS.put_ne haw]; exact e, k⟩
      generalize S1.put w (MO.lst (vs.map pairD)) = S2 at hW2 hF2 fr2 pt2 ⊢
      have wd : wid (vs ++ [(lo, hi)]) = wid vs + (hi - lo - 1).toNat := by rw [wid_app]; simp [wid]
      have md : mu (vs ++ [(lo, hi)]) = mu vs + (2 * (hi - lo) - 1).toNat := by rw [mu_app]; simp [mu]
      rw [wd] at pt2 hl
      rw [md] at hk
      have hvs : ∀ p ∈ vs, 0 ≤ p.1 ∧ p.1 < p.2 ∧ p.2 < m := fun p hp => hws p (by simp [hp])
      by_cases hg : 1 < hi - lo
      · rw [decide_eq_true hg]
        simp (config := {decide := true}) only [wpSs, DL.wpS, wpE, wpX, star_tup, star_ref, wpEs, wpEn, wpO, wpCh, wpB, wpBs, wpBo, wpI, wpT, wpTs, boolOf, startR, CTs.len, CEs.len, CEs.isNil, upto_ff, upto_tt, List.length_cons, List.length_nil, List.map_cons, List.map_nil, List.replicate, List.cons_append, List.nil_append, List.append_nil, List.set_cons_zero, List.set_cons_succ, bind_some, bind_none, getV_nil, getV_0s, getV_0n, getV_s, if_true, if_false, Bool.false_eq_true, ite_self, true_and, and_true, blt_len, blt_abs, blt_max, blt_min, blt_sum, blt_all, blt_any, blt_repr, blt_isi, lst_ref, len_tup, len_str, len_ref, bty_int, bty_bool, bty_str, bty_strs, bty_tup, bty_tupl, bty_lst, bty_lstl, bin_add, bin_sub, bin_mul, bin_div, bin_mod, bin_pow, bin_adds, bin_addt, bin_mult, bin_addl, cmp_lt, cmp_le, cmp_gt, cmp_ge, cmp_eq, cmp_ne, cmp_eqs, cmp_nes, cmp_eqt, cmp_net, cmp_is, cmp_isn, tru_non, tru_bl', tru_int, tru_str, tru_tup, tru_ref, neg_int, ix_tup', ix_str', ix_ref', sl_tup', sl_str', sl_ref', rev_tup', part_int, walk_tup, walk_ref, walk_str, rng_1, rng_2, set_ref, aug_add, aug_sub, rg_1, rg_2, atI_0, atI_1, atI_2, ixN3_0, ixN3_1, ixN3_2, ex_lst, DS.put_same, lstAt_put]
        refine ⟨a, hi - lo - 1, n + wid vs + ((hi - lo - 1).toNat - 1), rfl, by omega, bd_of_lt (by omega) (by omega), pt2.less (by omega), fun r S3 fr3 pt3 r0 r1 => ?_⟩
        have hW3 : S3.mem w = some (.lst (vs.map pairD)) := fr3.mem w _ (Ne.symm haw) hW2
        have hF3 : S3.mem f = some (.lst (fs.map pairD)) := fr3.mem f _ (Ne.symm haf) hF2
        simp (config := {decide := true}) only [wpSs, DL.wpS, wpE, wpX, star_tup, star_ref, wpEs, wpEn, wpO, wpCh, wpB, wpBs, wpBo, wpI, wpT, wpTs, boolOf, startR, CTs.len, CEs.len, CEs.isNil, upto_ff, upto_tt, List.length_cons, List.length_nil, List.map_cons, List.map_nil, List.replicate, List.cons_append, List.nil_append, List.append_nil, List.set_cons_zero, List.set_cons_succ, bind_some, bind_none, getV_nil, getV_0s, getV_0n, getV_s, if_true, if_false, Bool.false_eq_true, ite_self, true_and, and_true, blt_len, blt_abs, blt_max, blt_min, blt_sum, blt_all, blt_any, blt_repr, blt_isi, lst_ref, len_tup, len_str, len_ref, bty_int, bty_bool, bty_str, bty_strs, bty_tup, bty_tupl, bty_lst, bty_lstl, bin_add, bin_sub, bin_mul, bin_div, bin_mod, bin_pow, bin_adds, bin_addt, bin_mult, bin_addl, cmp_lt, cmp_le, cmp_gt, cmp_ge, cmp_eq, cmp_ne, cmp_eqs, cmp_nes, cmp_eqt, cmp_net, cmp_is, cmp_isn, tru_non, tru_bl', tru_int, tru_str, tru_tup, tru_ref, neg_int, ix_tup', ix_str', ix_ref', sl_tup', sl_str', sl_ref', rev_tup', part_int, walk_tup, walk_ref, walk_str, rng_1, rng_2, set_ref, aug_add, aug_sub, rg_1, rg_2, atI_0, atI_1, atI_2, ixN3_0, ixN3_1, ixN3_2, ex_lst, DS.put_same, lstAt_put, met_extend hW3]
        intro p4 hp4
        have hwp4 : w ≠ p4 := fun z => by subst z; rw [hW3] at hp4; cases hp4
        have hfp4 : f ≠ p4 := fun z => by subst z; rw [hF3] at hp4; cases hp4
        have hap4 : a ≠ p4 := fun z => (pt3.ne) (z ▸ hp4)
        have hW4 : (S3.put p4 (MO.lst [D.tup [D.int lo, D.int (lo + 1 + r)], D.tup [D.int (lo + 1 + r), D.int hi]])).mem w = some (.lst (vs.map pairD)) := by rw [DS.put_ne hwp4]; exact hW3
        have sp : S.mem p4 = none := by
          cases z : S.mem p4 with
          | none => rfl
          | some o => rw [(fr2.trans fr3).mem p4 o (Ne.symm hap4) z] at hp4; cases hp4
        have lvs : vs.length ≤ mu vs := len_mu fun p hp => (hvs p hp).2.1
        refine mets_extend hW4 DS.put_same (by rw [List.length_map, sz]; simp only [List.length_cons, List.length_nil]; omega) ?_
        have hF4 : ((S3.put p4 (MO.lst [D.tup [D.int lo, D.int (lo + 1 + r)], D.tup [D.int (lo + 1 + r), D.int hi]])).put w (MO.lst (vs.map pairD ++ [D.tup [D.int lo, D.int (lo + 1 + r)], D.tup [D.int (lo + 1 + r), D.int hi]]))).mem f = some (.lst (fs.map pairD)) := by
          rw [DS.put_ne hfw, DS.put_ne hfp4]; exact hF3
        have fr4 : Fr a S ((S3.put p4 (MO.lst [D.tup [D.int lo, D.int (lo + 1 + r)], D.tup [D.int (lo + 1 + r), D.int hi]])).put w (MO.lst (vs.map pairD ++ [D.tup [D.int lo, D.int (lo + 1 + r)], D.tup [D.int (lo + 1 + r), D.int hi]]))) := Fr.set ((fr2.trans fr3).trans (Fr.new hp4)) newW haw
        have pt4 : Pot ((S3.put p4 (MO.lst [D.tup [D.int lo, D.int (lo + 1 + r)], D.tup [D.int (lo + 1 + r), D.int hi]])).put w (MO.lst (vs.map pairD ++ [D.tup [D.int lo, D.int (lo + 1 + r)], D.tup [D.int (lo + 1 + r), D.int hi]]))) a (n + wid vs + ((hi - lo - 1).toNat - 1)) := Pot.set (pt3.new hp4) haw
        have hW5 : ((S3.put p4 (MO.lst [D.tup [D.int lo, D.int (lo + 1 + r)], D.tup [D.int (lo + 1 + r), D.int hi]])).put w (MO.lst (vs.map pairD ++ [D.tup [D.int lo, D.int (lo + 1 + r)], D.tup [D.int (lo + 1 + r), D.int hi]]))).mem w = some (.lst ((vs ++ [(lo, lo + 1 + r), (lo + 1 + r, hi)]).map pairD)) := by
          rw [DS.put_same, List.map_append]; rfl
        generalize ((S3.put p4 (MO.lst [D.tup [D.int lo, D.int (lo + 1 + r)], D.tup [D.int (lo + 1 + r), D.int hi]])).put w (MO.lst (vs.map pairD ++ [D.tup [D.int lo, D.int (lo + 1 + r)], D.tup [D.int (lo + 1 + r), D.int hi]]))) = S5 at hF4 fr4 pt4 hW5 ⊢
        simp (config := {decide := true}) only [wpSs, DL.wpS, wpE, wpX, star_tup, star_ref, wpEs, wpEn, wpO, wpCh, wpB, wpBs, wpBo, wpI, wpT, wpTs, boolOf, startR, CTs.len, CEs.len, CEs.isNil, upto_ff, upto_tt, List.length_cons, List.length_nil, List.map_cons, List.map_nil, List.replicate, List.cons_append, List.nil_append, List.append_nil, List.set_cons_zero, List.set_cons_succ, bind_some, bind_none, getV_nil, getV_0s, getV_0n, getV_s, if_true, if_false, Bool.false_eq_true, ite_self, true_and, and_true, blt_len, blt_abs, blt_max, blt_min, blt_sum, blt_all, blt_any, blt_repr, blt_isi, lst_ref, len_tup, len_str, len_ref, bty_int, bty_bool, bty_str, bty_strs, bty_tup, bty_tupl, bty_lst, bty_lstl, bin_add, bin_sub, bin_mul, bin_div, bin_mod, bin_pow, bin_adds, bin_addt, bin_mult, bin_addl, cmp_lt, cmp_le, cmp_gt, cmp_ge, cmp_eq, cmp_ne, cmp_eqs, cmp_nes, cmp_eqt, cmp_net, cmp_is, cmp_isn, tru_non, tru_bl', tru_int, tru_str, tru_tup, tru_ref, neg_int, ix_tup', ix_str', ix_ref', sl_tup', sl_str', sl_ref', rev_tup', part_int, walk_tup, walk_ref, walk_str, rng_1, rng_2, set_ref, aug_add, aug_sub, rg_1, rg_2, atI_0, atI_1, atI_2, ixN3_0, ixN3_1, ixN3_2, ex_lst, DS.put_same, lstAt_put, met_append hF4, mets_append hF4]
        have w2 : wid (vs ++ [(lo, lo + 1 + r), (lo + 1 + r, hi)]) = wid vs + (r.toNat + (hi - (lo + 1 + r) - 1).toNat) := by
          rw [wid_app]; simp [wid]; omega
        have m2 : mu (vs ++ [(lo, lo + 1 + r), (lo + 1 + r, hi)]) = mu vs + ((2 * (r + 1) - 1).toNat + (2 * (hi - (lo + 1 + r)) - 1).toNat) := by
          rw [mu_app]; simp [mu]; omega
        refine ⟨by rw [List.length_map, sz]; omega, hN (mu (vs ++ [(lo, lo + 1 + r), (lo + 1 + r, hi)])) _ _ (by rw [md, m2]; omega) (fgt_of (.cons (.cons (.cons (.cons (.cons (.cons (.cons (.cons .nil (.inl rfl)) (.inr rfl)) (.inr rfl)) (.inr rfl)) (.inl rfl)) (.inl rfl)) (.inl rfl)) (.inl rfl)) (LeS.refl _)
          ⟨vs ++ [(lo, lo + 1 + r), (lo + 1 + r, hi)], fs ++ [(lo, hi)], rfl, Fr.set fr4 hf haf, Pot.set (pt4.less (by rw [w2]; omega)) haf, by rw [DS.put_ne (Ne.symm hfw)]; exact hW5, by rw [DS.put_same, List.map_append]; rfl, fun p hp => ?_, fun p hp => ?_, ?_, rfl, by rw [m2]; omega⟩)⟩
        · rcases List.mem_append.mp hp with hp | hp
          · exact hvs p hp
          · simp only [List.mem_cons, List.not_mem_nil, or_false] at hp
            rcases hp with rfl | rfl <;> simp only <;> omega
        · rcases List.mem_append.mp hp with hp | hp
          · exact hfs p hp
          · rw [List.mem_singleton.mp hp]
            exact ⟨h1, h2, h3⟩
        · rw [w2, List.length_append, List.length_singleton]; omega
      · rw [decide_eq_false hg]
        simp (config := {decide := true}) only [wpSs, DL.wpS, wpE, wpX, star_tup, star_ref, wpEs, wpEn, wpO, wpCh, wpB, wpBs, wpBo, wpI, wpT, wpTs, boolOf, startR, CTs.len, CEs.len, CEs.isNil, upto_ff, upto_tt, List.length_cons, List.length_nil, List.map_cons, List.map_nil, List.replicate, List.cons_append, List.nil_append, List.append_nil, List.set_cons_zero, List.set_cons_succ, bind_some, bind_none, getV_nil, getV_0s, getV_0n, getV_s, if_true, if_false, Bool.false_eq_true, ite_self, true_and, and_true, blt_len, blt_abs, blt_max, blt_min, blt_sum, blt_all, blt_any, blt_repr, blt_isi, lst_ref, len_tup, len_str, len_ref, bty_int, bty_bool, bty_str, bty_strs, bty_tup, bty_tupl, bty_lst, bty_lstl, bin_add, bin_sub, bin_mul, bin_div, bin_mod, bin_pow, bin_adds, bin_addt, bin_mult, bin_addl, cmp_lt, cmp_le, cmp_gt, cmp_ge, cmp_eq, cmp_ne, cmp_eqs, cmp_nes, cmp_eqt, cmp_net, cmp_is, cmp_isn, tru_non, tru_bl', tru_int, tru_str, tru_tup, tru_ref, neg_int, ix_tup', ix_str', ix_ref', sl_tup', sl_str', sl_ref', rev_tup', part_int, walk_tup, walk_ref, walk_str, rng_1, rng_2, set_ref, aug_add, aug_sub, rg_1, rg_2, atI_0, atI_1, atI_2, ixN3_0, ixN3_1, ixN3_2, ex_lst, DS.put_same, lstAt_put]
        refine hN (mu vs) _ _ (by rw [md]; omega) (fgt_of (.cons (.cons (.cons (.cons (.cons (.cons (.cons (.cons .nil (.inl rfl)) (.inl rfl)) (.inr rfl)) (.inr rfl)) (.inl rfl)) (.inl rfl)) (.inl rfl)) (.inl rfl)) (LeS.refl _) ⟨vs, fs, rfl, fr2, pt2.less (by omega), hW2, hF2, hvs, hfs, by omega, rfl, by omega⟩)
  · have := (hp.new (m := MO.lst []) hf).new (p := w) (m := .lst [D.tup [D.int 0, D.int ((m : Int) - 1)]]) (by rw [put_none]; exact hw)
    refine this.less ?_
    simp [wid]; omega
  · rw [List.mem_singleton.mp hp]
    simp only
    omega
  · simp [wid]; omega
  · simp [mu]; omega
end K02

namespace K02
open PySem DL LK
/-- how many diagonals a corner has, and one -/
def rowOfCut (m : Nat) (qs : List (Int × Int)) : List Int := (List.range m).map fun c : Nat => 1 + ((qs.filter fun p => p.1 == (c : Int) || p.2 == (c : Int)).length : Int)
theorem rowOfCut_len (m : Nat) (qs : List (Int × Int)) : (rowOfCut m qs).length = m := by simp [rowOfCut]
theorem rowOfCut_mem {m : Nat} {qs : List (Int × Int)} {i : Int} (h : i ∈ rowOfCut m qs) : 1 ≤ i ∧ i ≤ 1 + qs.length := by
  obtain ⟨c, _, rfl⟩ := List.mem_map.mp h
  have := List.length_filter_le (fun p : Int × Int => p.1 == (c : Int) || p.2 == (c : Int)) qs
  omega
def c22 : FC := fun ds S Q _ => ∃ m : Nat, ∃ qs : List (Int × Int), ds = [.int m, .tup (qs.map pairD)] ∧ m ≤ 1000 ∧ qs.length ≤ 1000 ∧ Q (intsD (rowOfCut m qs)) S
theorem w22 (G : GS) (Γ : Ga) : Keeps G Γ F22 c22 := by
  rintro ds S Q E ⟨m, qs, rfl, hm, hq, q⟩
  have sz : sizeLine = 16777216 := sizeLine_eq
  simp (config := {decide := true}) only [F22, wpSs, DL.wpS, wpE, wpX, star_tup, star_ref, wpEs, wpEn, wpO, wpCh, wpB, wpBs, wpBo, wpI, wpT, wpTs, boolOf, startR, CTs.len, CEs.len, CEs.isNil, upto_ff, upto_tt, List.length_cons, List.length_nil, List.map_cons, List.map_nil, List.replicate, List.cons_append, List.nil_append, List.append_nil, List.set_cons_zero, List.set_cons_succ, bind_some, bind_none, getV_nil, getV_0s, getV_0n, getV_s, if_true, if_false, Bool.false_eq_true, ite_self, true_and, and_true, blt_len, blt_abs, blt_max, blt_min, blt_sum, blt_all, blt_any, blt_repr, blt_isi, lst_ref, len_tup, len_str, len_ref, bty_int, bty_bool, bty_str, bty_strs, bty_tup, bty_tupl, bty_lst, bty_lstl, bin_add, bin_sub, bin_mul, bin_div, bin_mod, bin_pow, bin_adds, bin_addt, bin_mult, bin_addl, cmp_lt, cmp_le, cmp_gt, cmp_ge, cmp_eq, cmp_ne, cmp_eqs, cmp_nes, cmp_eqt, cmp_net, cmp_is, cmp_isn, tru_non, tru_bl', tru_int, tru_str, tru_tup, tru_ref, neg_int, ix_tup', ix_str', ix_ref', sl_tup', sl_str', sl_ref', rev_tup', part_int, walk_tup, walk_ref, walk_str, rng_1, rng_2, set_ref, aug_add, aug_sub, rg_1, rg_2, atI_0, atI_1, atI_2, ixN3_0, ixN3_1, ixN3_2, ex_lst, DS.put_same, lstAt_put, lcQ, wipeR]
  refine ⟨by constructor <;> omega, by rw [rngD_len, sz]; omega, ?_⟩
  refine lcS_ind (fun i acc S' => acc = ((rowOfCut m qs).take i).map D.int ∧ LeM S S') (fun i d acc S' hd h => ⟨trivial, fun R R0 hR _ => ?_⟩) (fun acc S' h => ⟨trivial, ?_⟩) ⟨rfl, LeM.refl S⟩
  · obtain ⟨rfl, le⟩ := h
    obtain ⟨hi, rfl⟩ := rngD_get hd
    simp (config := {decide := true}) only [wpSs, DL.wpS, wpE, wpX, star_tup, star_ref, wpEs, wpEn, wpO, wpCh, wpB, wpBs, wpBo, wpI, wpT, wpTs, boolOf, startR, CTs.len, CEs.len, CEs.isNil, upto_ff, upto_tt, List.length_cons, List.length_nil, List.map_cons, List.map_nil, List.replicate, List.cons_append, List.nil_append, List.append_nil, List.set_cons_zero, List.set_cons_succ, bind_some, bind_none, getV_nil, getV_0s, getV_0n, getV_s, if_true, if_false, Bool.false_eq_true, ite_self, true_and, and_true, blt_len, blt_abs, blt_max, blt_min, blt_sum, blt_all, blt_any, blt_repr, blt_isi, lst_ref, len_tup, len_str, len_ref, bty_int, bty_bool, bty_str, bty_strs, bty_tup, bty_tupl, bty_lst, bty_lstl, bin_add, bin_sub, bin_mul, bin_div, bin_mod, bin_pow, bin_adds, bin_addt, bin_mult, bin_addl, cmp_lt, cmp_le, cmp_gt, cmp_ge, cmp_eq, cmp_ne, cmp_eqs, cmp_nes, cmp_eqt, cmp_net, cmp_is, cmp_isn, tru_non, tru_bl', tru_int, tru_str, tru_tup, tru_ref, neg_int, ix_tup', ix_str', ix_ref', sl_tup', sl_str', sl_ref', rev_tup', part_int, walk_tup, walk_ref, walk_str, rng_1, rng_2, set_ref, aug_add, aug_sub, rg_1, rg_2, atI_0, atI_1, atI_2, ixN3_0, ixN3_1, ixN3_2, ex_lst, DS.put_same, lstAt_put]
    refine ⟨by rw [List.length_map, sz]; omega, ?_⟩
    have ec : (0 + (i : Int) * 1) = (i : Int) := by omega
    rw [ec]
    refine lcS_filter (onPair fun p => p.1 == (i : Int) || p.2 == (i : Int)) id trivial (fun d hd R R0 r1 r0 => ?_) ?_
    · obtain ⟨p, hp, rfl⟩ := List.mem_map.mp hd
      simp (config := {decide := true}) only [wpSs, DL.wpS, wpE, wpX, star_tup, star_ref, wpEs, wpEn, wpO, wpCh, wpB, wpBs, wpBo, wpI, wpT, wpTs, boolOf, startR, CTs.len, CEs.len, CEs.isNil, upto_ff, upto_tt, List.length_cons, List.length_nil, List.map_cons, List.map_nil, List.replicate, List.cons_append, List.nil_append, List.append_nil, List.set_cons_zero, List.set_cons_succ, bind_some, bind_none, getV_nil, getV_0s, getV_0n, getV_s, if_true, if_false, Bool.false_eq_true, ite_self, true_and, and_true, blt_len, blt_abs, blt_max, blt_min, blt_sum, blt_all, blt_any, blt_repr, blt_isi, lst_ref, len_tup, len_str, len_ref, bty_int, bty_bool, bty_str, bty_strs, bty_tup, bty_tupl, bty_lst, bty_lstl, bin_add, bin_sub, bin_mul, bin_div, bin_mod, bin_pow, bin_adds, bin_addt, bin_mult, bin_addl, cmp_lt, cmp_le, cmp_gt, cmp_ge, cmp_eq, cmp_ne, cmp_eqs, cmp_nes, cmp_eqt, cmp_net, cmp_is, cmp_isn, tru_non, tru_bl', tru_int, tru_str, tru_tup, tru_ref, neg_int, ix_tup', ix_str', ix_ref', sl_tup', sl_str', sl_ref', rev_tup', part_int, walk_tup, walk_ref, walk_str, rng_1, rng_2, set_ref, aug_add, aug_sub, rg_1, rg_2, atI_0, atI_1, atI_2, ixN3_0, ixN3_1, ixN3_2, ex_lst, DS.put_same, lstAt_put]
      have e : onPair (fun p => p.1 == (i : Int) || p.2 == (i : Int)) (pairD p) = (p.1 == (i : Int) || p.2 == (i : Int)) := rfl
      rw [e] at r1 r0
      refine cmp_in_pair ?_
      cases h : (p.1 == (i : Int) || p.2 == (i : Int)) with
      | true => rw [h] at r1; exact r1 rfl
      | false => rw [h] at r0; exact r0 rfl
    · intro p hp
      rw [List.nil_append, List.map_id, onPair_map, List.length_map]
      refine hR _ _ ⟨?_, ?_⟩
      · have hg : (rowOfCut m qs)[i]? = some (1 + ((qs.filter fun p => p.1 == (i : Int) || p.2 == (i : Int)).length : Int)) := by
          have hi : i < m := hi
          simp [rowOfCut, hi]
        rw [take_snoc hg, List.map_append]; rfl
      · exact fun a o e => by
          have e1 := le a o e
          have hp : S'.mem p = none := hp
          have : a ≠ p := fun z => by subst z; rw [hp] at e1; cases e1
          show (((S'.back S').put p _)).mem a = _
          rw [DS.put_ne this]; exact e1
  · obtain ⟨rfl, le⟩ := h
    intro p hp
    rw [rngD_len, List.take_of_length_le (by rw [rowOfCut_len]; omega)]
    exact fgtQ_mem ((LeM.back le).put (le.none hp)) q
def c28 : FC := fun ds S Q _ => ∃ a n, ds = [.ref a] ∧ Pot S a (n + 40) ∧ ∀ is S', Fr a S S' → Pot S' a n → Short is → Q (intsD is) S'
theorem w28 (G : GS) (Γ : Ga) (g11 : Γ.fn 11 = cTake) (g12 : Γ.fn 12 = cOf) (g21 : Γ.fn 21 = cCut) (g22 : Γ.fn 22 = c22) : Keeps G Γ F28 c28 := by
  rintro ds S Q E ⟨a, n, rfl, hp, q⟩
  have sz : sizeLine = 16777216 := sizeLine_eq
  simp (config := {decide := true}) only [F28, wpSs, DL.wpS, wpE, wpX, star_tup, star_ref, wpEs, wpEn, wpO, wpCh, wpB, wpBs, wpBo, wpI, wpT, wpTs, boolOf, startR, CTs.len, CEs.len, CEs.isNil, upto_ff, upto_tt, List.length_cons, List.length_nil, List.map_cons, List.map_nil, List.replicate, List.cons_append, List.nil_append, List.append_nil, List.set_cons_zero, List.set_cons_succ, bind_some, bind_none, getV_nil, getV_0s, getV_0n, getV_s, if_true, if_false, Bool.false_eq_true, ite_self, true_and, and_true, blt_len, blt_abs, blt_max, blt_min, blt_sum, blt_all, blt_any, blt_repr, blt_isi, lst_ref, len_tup, len_str, len_ref, bty_int, bty_bool, bty_str, bty_strs, bty_tup, bty_tupl, bty_lst, bty_lstl, bin_add, bin_sub, bin_mul, bin_div, bin_mod, bin_pow, bin_adds, bin_addt, bin_mult, bin_addl, cmp_lt, cmp_le, cmp_gt, cmp_ge, cmp_eq, cmp_ne, cmp_eqs, cmp_nes, cmp_eqt, cmp_net, cmp_is, cmp_isn, tru_non, tru_bl', tru_int, tru_str, tru_tup, tru_ref, neg_int, ix_tup', ix_str', ix_ref', sl_tup', sl_str', sl_ref', rev_tup', part_int, walk_tup, walk_ref, walk_str, rng_1, rng_2, set_ref, aug_add, aug_sub, rg_1, rg_2, atI_0, atI_1, atI_2, ixN3_0, ixN3_1, ixN3_2, ex_lst, DS.put_same, lstAt_put, g11, g12, g21, g22, lcQ, wipeR]
  refine ⟨a, 4, n + 39, rfl, by decide, by decide, hp, fun r S1 fr1 pt1 r0 r1 => ?_⟩
  refine ⟨a, 9, n + 38, rfl, by decide, by decide, pt1, fun z S2 fr2 pt2 z0 z1 => ?_⟩
  simp (config := {decide := true}) only [wpSs, DL.wpS, wpE, wpX, star_tup, star_ref, wpEs, wpEn, wpO, wpCh, wpB, wpBs, wpBo, wpI, wpT, wpTs, boolOf, startR, CTs.len, CEs.len, CEs.isNil, upto_ff, upto_tt, List.length_cons, List.length_nil, List.map_cons, List.map_nil, List.replicate, List.cons_append, List.nil_append, List.append_nil, List.set_cons_zero, List.set_cons_succ, bind_some, bind_none, getV_nil, getV_0s, getV_0n, getV_s, if_true, if_false, Bool.false_eq_true, ite_self, true_and, and_true, blt_len, blt_abs, blt_max, blt_min, blt_sum, blt_all, blt_any, blt_repr, blt_isi, lst_ref, len_tup, len_str, len_ref, bty_int, bty_bool, bty_str, bty_strs, bty_tup, bty_tupl, bty_lst, bty_lstl, bin_add, bin_sub, bin_mul, bin_div, bin_mod, bin_pow, bin_adds, bin_addt, bin_mult, bin_addl, cmp_lt, cmp_le, cmp_gt, cmp_ge, cmp_eq, cmp_ne, cmp_eqs, cmp_nes, cmp_eqt, cmp_net, cmp_is, cmp_isn, tru_non, tru_bl', tru_int, tru_str, tru_tup, tru_ref, neg_int, ix_tup', ix_str', ix_ref', sl_tup', sl_str', sl_ref', rev_tup', part_int, walk_tup, walk_ref, walk_str, rng_1, rng_2, set_ref, aug_add, aug_sub, rg_1, rg_2, atI_0, atI_1, atI_2, ixN3_0, ixN3_1, ixN3_2, ex_lst, DS.put_same, lstAt_put]
  obtain ⟨m, hm⟩ : ∃ m : Nat, 4 + z = (m : Int) := ⟨(4 + z).toNat, by omega⟩
  rw [hm]
  have m1 : m ≤ 12 := by omega
  have m2 : 4 ≤ m := by omega
  by_cases hr : r < 2
  · rw [decide_eq_true hr]
    simp (config := {decide := true}) only [wpSs, DL.wpS, wpE, wpX, star_tup, star_ref, wpEs, wpEn, wpO, wpCh, wpB, wpBs, wpBo, wpI, wpT, wpTs, boolOf, startR, CTs.len, CEs.len, CEs.isNil, upto_ff, upto_tt, List.length_cons, List.length_nil, List.map_cons, List.map_nil, List.replicate, List.cons_append, List.nil_append, List.append_nil, List.set_cons_zero, List.set_cons_succ, bind_some, bind_none, getV_nil, getV_0s, getV_0n, getV_s, if_true, if_false, Bool.false_eq_true, ite_self, true_and, and_true, blt_len, blt_abs, blt_max, blt_min, blt_sum, blt_all, blt_any, blt_repr, blt_isi, lst_ref, len_tup, len_str, len_ref, bty_int, bty_bool, bty_str, bty_strs, bty_tup, bty_tupl, bty_lst, bty_lstl, bin_add, bin_sub, bin_mul, bin_div, bin_mod, bin_pow, bin_adds, bin_addt, bin_mult, bin_addl, cmp_lt, cmp_le, cmp_gt, cmp_ge, cmp_eq, cmp_ne, cmp_eqs, cmp_nes, cmp_eqt, cmp_net, cmp_is, cmp_isn, tru_non, tru_bl', tru_int, tru_str, tru_tup, tru_ref, neg_int, ix_tup', ix_str', ix_ref', sl_tup', sl_str', sl_ref', rev_tup', part_int, walk_tup, walk_ref, walk_str, rng_1, rng_2, set_ref, aug_add, aug_sub, rg_1, rg_2, atI_0, atI_1, atI_2, ixN3_0, ixN3_1, ixN3_2, ex_lst, DS.put_same, lstAt_put]
    refine ⟨a, n + 20, m, rfl, by omega, by omega, pt2.less (by omega), fun qs S3 fr3 pt3 hq _ => ?_⟩
    refine ⟨m, qs, rfl, by omega, by omega, ?_⟩
    refine ⟨a, m, n + 19, rfl, by omega, bd_of_lt (by omega) (by omega), pt3.less (by omega), fun x S4 fr4 pt4 x0 x1 => ?_⟩
    have hrow : ∀ i ∈ rowOfCut m qs, i.natAbs ≤ 1000 := fun i hi => by
      have := rowOfCut_mem hi
      omega
    simp (config := {decide := true}) only [sl_ints, part_int, wpSs, DL.wpS, wpE, wpX, star_tup, star_ref, wpEs, wpEn, wpO, wpCh, wpB, wpBs, wpBo, wpI, wpT, wpTs, boolOf, startR, CTs.len, CEs.len, CEs.isNil, upto_ff, upto_tt, List.length_cons, List.length_nil, List.map_cons, List.map_nil, List.replicate, List.cons_append, List.nil_append, List.append_nil, List.set_cons_zero, List.set_cons_succ, bind_some, bind_none, getV_nil, getV_0s, getV_0n, getV_s, if_true, if_false, Bool.false_eq_true, ite_self, true_and, and_true, blt_len, blt_abs, blt_max, blt_min, blt_sum, blt_all, blt_any, blt_repr, blt_isi, lst_ref, len_tup, len_str, len_ref, bty_int, bty_bool, bty_str, bty_strs, bty_tup, bty_tupl, bty_lst, bty_lstl, bin_add, bin_sub, bin_mul, bin_div, bin_mod, bin_pow, bin_adds, bin_addt, bin_mult, bin_addl, cmp_lt, cmp_le, cmp_gt, cmp_ge, cmp_eq, cmp_ne, cmp_eqs, cmp_nes, cmp_eqt, cmp_net, cmp_is, cmp_isn, tru_non, tru_bl', tru_int, tru_str, tru_tup, tru_ref, neg_int, ix_tup', ix_str', ix_ref', sl_tup', sl_str', sl_ref', rev_tup', part_int, walk_tup, walk_ref, walk_str, rng_1, rng_2, set_ref, aug_add, aug_sub, rg_1, rg_2, atI_0, atI_1, atI_2, ixN3_0, ixN3_1, ixN3_2, ex_lst, DS.put_same, lstAt_put]
    have fr : Fr a S S4 := ((fr1.trans fr2).trans fr3).trans fr4
    have rlen := rowOfCut_len m qs
    generalize rowOfCut m qs = row at hrow rlen ⊢
    rw [add_ints]
    have l1 := cutL_len row (some x) none
    have l2 := cutL_len row none (some x)
    refine ⟨by rw [sz]; omega, ?_⟩
    have hrow2 : ∀ i ∈ cutL row (some x) none ++ cutL row none (some x), i.natAbs ≤ 1000 := fun i hi => by
      rcases List.mem_append.mp hi with hi | hi
      · exact hrow i ((cutL_sub _ _ _).subset hi)
      · exact hrow i ((cutL_sub _ _ _).subset hi)
    have rlen2 : (cutL row (some x) none ++ cutL row none (some x)).length ≤ 24 := by rw [List.length_append]; omega
    generalize cutL row (some x) none ++ cutL row none (some x) = row2 at hrow2 rlen2 ⊢
    have e00 : D.tup [D.int 0, D.int 0] = intsD [0, 0] := rfl
    have fin : ∀ js : List Int, js.length ≤ 30 → (∀ i ∈ js, i.natAbs ≤ 1000) → fgtQ S Q (intsD js) S4 := fun js l h => fgtQ_to (by
      rw [fr.back]
      exact q js S4 fr (pt4.less (by omega)) ⟨⟨by omega, fun i hi => by have := h i hi; omega⟩, by omega⟩)
    have l3 := cutL_len row2 none (some (-3))
    have h3 : ∀ i ∈ cutL row2 none (some (-3)), i.natAbs ≤ 1000 := fun i hi => hrow2 i ((cutL_sub _ _ _).subset hi)
    by_cases h0 : r = 0
    · rw [decide_eq_true h0]
      simp only [if_true, sl_ints]
      exact fin _ (by omega) h3
    · rw [decide_eq_false h0]
      simp only [Bool.false_eq_true, if_false, sl_ints, e00, add_ints]
      refine ⟨by rw [sz]; simp only [List.length_cons, List.length_nil]; omega, fin _ (by rw [List.length_append]; simp only [List.length_cons, List.length_nil]; omega) fun i hi => ?_⟩
      rcases List.mem_append.mp hi with hi | hi
      · exact h3 i hi
      · simp only [List.mem_cons, List.not_mem_nil, or_false] at hi
        rcases hi with rfl | rfl <;> decide
  · rw [decide_eq_false hr]
    simp (config := {decide := true}) only [wpSs, DL.wpS, wpE, wpX, star_tup, star_ref, wpEs, wpEn, wpO, wpCh, wpB, wpBs, wpBo, wpI, wpT, wpTs, boolOf, startR, CTs.len, CEs.len, CEs.isNil, upto_ff, upto_tt, List.length_cons, List.length_nil, List.map_cons, List.map_nil, List.replicate, List.cons_append, List.nil_append, List.append_nil, List.set_cons_zero, List.set_cons_succ, bind_some, bind_none, getV_nil, getV_0s, getV_0n, getV_s, if_true, if_false, Bool.false_eq_true, ite_self, true_and, and_true, blt_len, blt_abs, blt_max, blt_min, blt_sum, blt_all, blt_any, blt_repr, blt_isi, lst_ref, len_tup, len_str, len_ref, bty_int, bty_bool, bty_str, bty_strs, bty_tup, bty_tupl, bty_lst, bty_lstl, bin_add, bin_sub, bin_mul, bin_div, bin_mod, bin_pow, bin_adds, bin_addt, bin_mult, bin_addl, cmp_lt, cmp_le, cmp_gt, cmp_ge, cmp_eq, cmp_ne, cmp_eqs, cmp_nes, cmp_eqt, cmp_net, cmp_is, cmp_isn, tru_non, tru_bl', tru_int, tru_str, tru_tup, tru_ref, neg_int, ix_tup', ix_str', ix_ref', sl_tup', sl_str', sl_ref', rev_tup', part_int, walk_tup, walk_ref, walk_str, rng_1, rng_2, set_ref, aug_add, aug_sub, rg_1, rg_2, atI_0, atI_1, atI_2, ixN3_0, ixN3_1, ixN3_2, ex_lst, DS.put_same, lstAt_put]
    intro p2 hp2
    have ne2 := pt2.ne
    have hap2 : a ≠ p2 := fun z => ne2 (z ▸ hp2)
    refine ⟨a, p2, _, n + 37, rfl, hap2, pt2.new hp2, lstAt_put, by simp, by decide, fun u hu S3 fr3 pt3 => ?_⟩
    obtain ⟨U, rfl, u0, u1⟩ : ∃ U : Int, u = .int U ∧ 0 < U ∧ U ≤ 50 := by
      simp only [List.mem_cons, List.not_mem_nil, or_false] at hu
      rcases hu with rfl | rfl | rfl <;> exact ⟨_, rfl, by decide, by decide⟩
    refine ⟨a, 8, n + 36, rfl, by decide, by decide, pt3, fun z S4 fr4 pt4 z0 z1 => ?_⟩
    have fr : Fr a S S4 := (fr1.trans fr2).trans (((Fr.new hp2).trans fr3).trans fr4)
    simp (config := {decide := true}) only [wpSs, DL.wpS, wpE, wpX, star_tup, star_ref, wpEs, wpEn, wpO, wpCh, wpB, wpBs, wpBo, wpI, wpT, wpTs, boolOf, startR, CTs.len, CEs.len, CEs.isNil, upto_ff, upto_tt, List.length_cons, List.length_nil, List.map_cons, List.map_nil, List.replicate, List.cons_append, List.nil_append, List.append_nil, List.set_cons_zero, List.set_cons_succ, bind_some, bind_none, getV_nil, getV_0s, getV_0n, getV_s, if_true, if_false, Bool.false_eq_true, ite_self, true_and, and_true, blt_len, blt_abs, blt_max, blt_min, blt_sum, blt_all, blt_any, blt_repr, blt_isi, lst_ref, len_tup, len_str, len_ref, bty_int, bty_bool, bty_str, bty_strs, bty_tup, bty_tupl, bty_lst, bty_lstl, bin_add, bin_sub, bin_mul, bin_div, bin_mod, bin_pow, bin_adds, bin_addt, bin_mult, bin_addl, cmp_lt, cmp_le, cmp_gt, cmp_ge, cmp_eq, cmp_ne, cmp_eqs, cmp_nes, cmp_eqt, cmp_net, cmp_is, cmp_isn, tru_non, tru_bl', tru_int, tru_str, tru_tup, tru_ref, neg_int, ix_tup', ix_str', ix_ref', sl_tup', sl_str', sl_ref', rev_tup', part_int, walk_tup, walk_ref, walk_str, rng_1, rng_2, set_ref, aug_add, aug_sub, rg_1, rg_2, atI_0, atI_1, atI_2, ixN3_0, ixN3_1, ixN3_2, ex_lst, DS.put_same, lstAt_put]
    have hz : z.toNat ≤ 8 := by omega
    refine ⟨by constructor <;> omega, by rw [rngD_len, sz]; omega, ?_⟩
    refine lcS_ind (fun i acc S' => ∃ is : List Int, acc = is.map .int ∧ is.length = i ∧ (∀ j ∈ is, j.natAbs ≤ 50) ∧ Fr a S4 S' ∧ Pot S' a (n + (36 - i))) (fun i d acc S' hd h => ⟨trivial, fun R R0 hR _ => ?_⟩) (fun acc S' h => ⟨trivial, ?_⟩) ⟨[], rfl, rfl, by simp, Fr.refl a S4, pt4⟩
    · obtain ⟨is, rfl, h1, h2, h3, h4⟩ := h
      have hi := (rngD_get hd).1
      simp (config := {decide := true}) only [wpSs, DL.wpS, wpE, wpX, star_tup, star_ref, wpEs, wpEn, wpO, wpCh, wpB, wpBs, wpBo, wpI, wpT, wpTs, boolOf, startR, CTs.len, CEs.len, CEs.isNil, upto_ff, upto_tt, List.length_cons, List.length_nil, List.map_cons, List.map_nil, List.replicate, List.cons_append, List.nil_append, List.append_nil, List.set_cons_zero, List.set_cons_succ, bind_some, bind_none, getV_nil, getV_0s, getV_0n, getV_s, if_true, if_false, Bool.false_eq_true, ite_self, true_and, and_true, blt_len, blt_abs, blt_max, blt_min, blt_sum, blt_all, blt_any, blt_repr, blt_isi, lst_ref, len_tup, len_str, len_ref, bty_int, bty_bool, bty_str, bty_strs, bty_tup, bty_tupl, bty_lst, bty_lstl, bin_add, bin_sub, bin_mul, bin_div, bin_mod, bin_pow, bin_adds, bin_addt, bin_mult, bin_addl, cmp_lt, cmp_le, cmp_gt, cmp_ge, cmp_eq, cmp_ne, cmp_eqs, cmp_nes, cmp_eqt, cmp_net, cmp_is, cmp_isn, tru_non, tru_bl', tru_int, tru_str, tru_tup, tru_ref, neg_int, ix_tup', ix_str', ix_ref', sl_tup', sl_str', sl_ref', rev_tup', part_int, walk_tup, walk_ref, walk_str, rng_1, rng_2, set_ref, aug_add, aug_sub, rg_1, rg_2, atI_0, atI_1, atI_2, ixN3_0, ixN3_1, ixN3_2, ex_lst, DS.put_same, lstAt_put]
      refine ⟨mulOk_bd (n := 2) (m := 20) (by decide) (bd_of_lt (by omega) (by omega)) (by decide), a, 2 * U + 1, n + (36 - (i + 1)), rfl, by omega, bd_of_lt (by omega) (by omega), h4.less (by omega), fun x S5 fr5 pt5 x0 x1 => ?_⟩
      simp (config := {decide := true}) only [wpSs, DL.wpS, wpE, wpX, star_tup, star_ref, wpEs, wpEn, wpO, wpCh, wpB, wpBs, wpBo, wpI, wpT, wpTs, boolOf, startR, CTs.len, CEs.len, CEs.isNil, upto_ff, upto_tt, List.length_cons, List.length_nil, List.map_cons, List.map_nil, List.replicate, List.cons_append, List.nil_append, List.append_nil, List.set_cons_zero, List.set_cons_succ, bind_some, bind_none, getV_nil, getV_0s, getV_0n, getV_s, if_true, if_false, Bool.false_eq_true, ite_self, true_and, and_true, blt_len, blt_abs, blt_max, blt_min, blt_sum, blt_all, blt_any, blt_repr, blt_isi, lst_ref, len_tup, len_str, len_ref, bty_int, bty_bool, bty_str, bty_strs, bty_tup, bty_tupl, bty_lst, bty_lstl, bin_add, bin_sub, bin_mul, bin_div, bin_mod, bin_pow, bin_adds, bin_addt, bin_mult, bin_addl, cmp_lt, cmp_le, cmp_gt, cmp_ge, cmp_eq, cmp_ne, cmp_eqs, cmp_nes, cmp_eqt, cmp_net, cmp_is, cmp_isn, tru_non, tru_bl', tru_int, tru_str, tru_tup, tru_ref, neg_int, ix_tup', ix_str', ix_ref', sl_tup', sl_str', sl_ref', rev_tup', part_int, walk_tup, walk_ref, walk_str, rng_1, rng_2, set_ref, aug_add, aug_sub, rg_1, rg_2, atI_0, atI_1, atI_2, ixN3_0, ixN3_1, ixN3_2, ex_lst, DS.put_same, lstAt_put]
      refine hR _ _ ⟨is ++ [x - U], by simp, by simp [h1], fun j hj => ?_, ?_, ?_⟩
      · rcases List.mem_append.mp hj with hj | hj
        · exact h2 j hj
        · rw [List.mem_singleton.mp hj]; omega
      · rw [(h3.trans fr5).back]; exact h3.trans fr5
      · rw [(h3.trans fr5).back]; exact pt5
    · obtain ⟨is, rfl, h1, h2, h3, h4⟩ := h
      rw [rngD_len] at h1 h4
      intro p5 hp5
      refine fgtQ_to ?_
      rw [h3.back, ((fr.trans h3).trans (Fr.new (m := MO.lst (is.map D.int)) hp5)).back]
      exact q is _ ((fr.trans h3).trans (Fr.new hp5)) ((h4.less (by omega)).new hp5) ⟨⟨by omega, fun i hi => by have := h2 i hi; omega⟩, by omega⟩
end K02

namespace K02
open PySem DL LK
theorem bd_quot {p q x : Int} {n : Nat} (h : q * x = p) (hq : q ≠ 0) (hp : bd n p) : bd n x := by
  unfold bd at hp ⊢
  rw [← h, Int.natAbs_mul] at hp
  have h1 : 1 ≤ q.natAbs := by omega
  have h2 : 1 * x.natAbs ≤ q.natAbs * x.natAbs := Nat.mul_le_mul_right _ h1
  omega
theorem bd_last {m : M2} (hb : m.Bd 850) {x y z : Int} (h : lastT m = some (x, y, z)) : bd 852 x ∧ bd 852 y ∧ bd 852 z := by
  unfold lastT at h
  split at h
  · split at h
    · simp only [Option.some.injEq, Prod.mk.injEq] at h
      obtain ⟨rfl, rfl, rfl⟩ := h
      exact ⟨hb.d.mono (by decide), DL.bd.mono (n := 1) (by decide) (by decide), DL.bd.mono (n := 1) (by decide) (by decide)⟩
    · cases h
  · rename_i ha
    split at h
    · rename_i hm
      obtain ⟨h1, h2⟩ := hm
      simp only [Option.some.injEq, Prod.mk.injEq] at h
      obtain ⟨hx, rfl, hz⟩ := h
      have one : bd 850 1 := DL.bd.mono (n := 1) (by decide) (by decide)
      refine ⟨(bd_quot (q := m.a) (p := 1 - m.b) ?_ ha (one.sub hb.b)).mono (by decide), hb.a.mono (by decide), (bd_quot (q := m.a) (p := 1 + m.c) ?_ ha (one.add hb.c)).mono (by decide)⟩
      · have := Int.mul_fdiv_add_fmod (1 - m.b) m.a
        rw [h1, hx] at this; omega
      · have := Int.mul_fdiv_add_fmod (1 + m.c) m.a
        rw [h2, hz] at this; omega
    · cases h
theorem Vl_ints {S : DS} {n : Nat} (l : n ≤ 11000) : ∀ {is : List Int}, (∀ i ∈ is, bd n i) → Vl S (is.map .int) ((n + 4) * is.length) 0
  | [], _ => Vl.nil
  | i :: is, h => by
    have h1 := Vl_ints (S := S) l (is := is) fun j hj => h j (by simp [hj])
    have h2 := Vl.cons (Vp_bd (S := S) (h i (by simp)) l) h1
    refine h2.up ?_ (Nat.le_refl _)
    rw [List.length_cons, Nat.mul_succ]; omega
theorem Vp_ints {S : DS} {n : Nat} {is : List Int} (l : n ≤ 11000) (h : ∀ i ∈ is, bd n i) : Vp S (intsD is) ((n + 4) * is.length + 3) 1 := (Vl_ints l h).tup
/-- told, as a thing that may be shown -/
theorem tD_ok {is : List Int} (hs : Short is) : (tD (lastT (M2.turns is)) = .non ∨ (Pi 1 (tD (lastT (M2.turns is))) ∧ ∃ w, Vp emp (tD (lastT (M2.turns is))) w 1 ∧ w ≤ 5000)) ∧ ∀ S, Vd S (tD (lastT (M2.turns is))) := by
  cases h : lastT (M2.turns is) with
  | none => exact ⟨.inl rfl, fun S => .inl (Vp.non.up (by decide) (by decide))⟩
  | some p =>
    obtain ⟨x, y, z⟩ := p
    obtain ⟨b1, b2, b3⟩ := bd_last hs.1.bd h
    have hb : ∀ i ∈ [x, y, z], bd 852 i := fun i hi => by
      simp only [List.mem_cons, List.not_mem_nil, or_false] at hi
      rcases hi with rfl | rfl | rfl <;> assumption
    refine ⟨.inr ⟨fun d hd => ?_, _, Vp_ints (by decide) hb, by simp⟩, fun S => .inl ((Vp_ints (by decide) hb).up (by simp) (by decide))⟩
    obtain ⟨i, hi, rfl⟩ := List.mem_map.mp hd
    exact (show bd 1000 i from (hb i hi).mono (by decide))
def c27 : FC := fun ds S Q _ => ∃ a is n, ds = [.ref a, intsD is] ∧ Short is ∧ Pot S a (n + 40) ∧ ∀ S', Fr a S S' → Pot S' a n → Q (.bl true) S'
theorem w27t (G : GS) (Γ : Ga) (g6 : Γ.fn 6 = c6) (g9 : Γ.fn 9 = c9) (g15 : Γ.fn 15 = cOdd) (g16 : Γ.fn 16 = cBent) (g17 : Γ.fn 17 = cIsBool) (g25 : Γ.fn 25 = c25) (g26 : Γ.fn 26 = c26) {S : DS} {Q : QE} {E : EX} {a V : Addr} {is : List Int} {n : Nat} (hs : Short is) (q : ∀ S', Fr a S S' → Pot S' a n → Q (.bl true) S')
   {vs : List D} {p5 p6 p7 : Option D} {S1 : DS} (fr : Fr a S S1) (pt : Pot S1 a (n + 30)) (haV : a ≠ V) (hV : S1.mem V = some (.lst vs)) (hl : vs.length ≤ 20) (hv : ∀ d ∈ vs, Vd (S1.hide a) d) :
    wpSs G Γ (F27.core.drop 4) (eE S E) { nx := fun _ => fgtQ S Q .non, rt := fgtQ S Q } [some (.ref a), some (intsD is), some (tD (lastT (M2.turns is))), some (.bl (lastT (M2.turns is)).isSome), some (.ref V), p5, p6, p7, none, none, none] S1 := by
  have sz : sizeLine = 16777216 := sizeLine_eq
  have td := tD_ok hs
  simp (config := {decide := true}) only [F27, CSs.drop, wpSs, DL.wpS, wpE, wpX, star_tup, star_ref, wpEs, wpEn, wpO, wpCh, wpB, wpBs, wpBo, wpI, wpT, wpTs, boolOf, startR, CTs.len, CEs.len, CEs.isNil, upto_ff, upto_tt, List.length_cons, List.length_nil, List.map_cons, List.map_nil, List.replicate, List.cons_append, List.nil_append, List.append_nil, List.set_cons_zero, List.set_cons_succ, bind_some, bind_none, getV_nil, getV_0s, getV_0n, getV_s, if_true, if_false, Bool.false_eq_true, ite_self, true_and, and_true, blt_len, blt_abs, blt_max, blt_min, blt_sum, blt_all, blt_any, blt_repr, blt_isi, lst_ref, len_tup, len_str, len_ref, bty_int, bty_bool, bty_str, bty_strs, bty_tup, bty_tupl, bty_lst, bty_lstl, bin_add, bin_sub, bin_mul, bin_div, bin_mod, bin_pow, bin_adds, bin_addt, bin_mult, bin_addl, cmp_lt, cmp_le, cmp_gt, cmp_ge, cmp_eq, cmp_ne, cmp_eqs, cmp_nes, cmp_eqt, cmp_net, cmp_is, cmp_isn, tru_non, tru_bl', tru_int, tru_str, tru_tup, tru_ref, neg_int, ix_tup', ix_str', ix_ref', sl_tup', sl_str', sl_ref', rev_tup', part_int, walk_tup, walk_ref, walk_str, rng_1, rng_2, set_ref, aug_add, aug_sub, rg_1, rg_2, atI_0, atI_1, atI_2, ixN3_0, ixN3_1, ixN3_2, ex_lst, DS.put_same, lstAt_put, g6, g9, g15, g16, g17, g25, g26, lcQ, wipeR]
  refine ⟨by constructor <;> decide, ?_⟩
  refine lcS_ind (fun i acc S' => acc.length = i ∧ Fr a S1 S' ∧ Pot S' a (n + (30 - 4 * i)) ∧ ∀ d ∈ acc, Vd (S'.hide a) d) (fun i d acc S' hd h => ⟨trivial, fun R R0 hR _ => ?_⟩) (fun acc S' h => ⟨trivial, ?_⟩) ⟨rfl, Fr.refl a S1, pt, by simp⟩
  · obtain ⟨h1, h2, h3, h4⟩ := h
    have hi : i < 6 := (rngD_get hd).1
    simp (config := {decide := true}) only [wpSs, DL.wpS, wpE, wpX, star_tup, star_ref, wpEs, wpEn, wpO, wpCh, wpB, wpBs, wpBo, wpI, wpT, wpTs, boolOf, startR, CTs.len, CEs.len, CEs.isNil, upto_ff, upto_tt, List.length_cons, List.length_nil, List.map_cons, List.map_nil, List.replicate, List.cons_append, List.nil_append, List.append_nil, List.set_cons_zero, List.set_cons_succ, bind_some, bind_none, getV_nil, getV_0s, getV_0n, getV_s, if_true, if_false, Bool.false_eq_true, ite_self, true_and, and_true, blt_len, blt_abs, blt_max, blt_min, blt_sum, blt_all, blt_any, blt_repr, blt_isi, lst_ref, len_tup, len_str, len_ref, bty_int, bty_bool, bty_str, bty_strs, bty_tup, bty_tupl, bty_lst, bty_lstl, bin_add, bin_sub, bin_mul, bin_div, bin_mod, bin_pow, bin_adds, bin_addt, bin_mult, bin_addl, cmp_lt, cmp_le, cmp_gt, cmp_ge, cmp_eq, cmp_ne, cmp_eqs, cmp_nes, cmp_eqt, cmp_net, cmp_is, cmp_isn, tru_non, tru_bl', tru_int, tru_str, tru_tup, tru_ref, neg_int, ix_tup', ix_str', ix_ref', sl_tup', sl_str', sl_ref', rev_tup', part_int, walk_tup, walk_ref, walk_str, rng_1, rng_2, set_ref, aug_add, aug_sub, rg_1, rg_2, atI_0, atI_1, atI_2, ixN3_0, ixN3_1, ixN3_2, ex_lst, DS.put_same, lstAt_put]
    refine ⟨a, _, n + (30 - 4 * (i + 1)), rfl, td.1, h3.less (by omega), fun b S2 fr2 pt2 vb => hR _ _ ?_⟩
    rw [(h2.trans fr2).back]
    refine ⟨by rw [List.length_append, h1]; rfl, h2.trans fr2, pt2, fun x hx => ?_⟩
    rcases List.mem_append.mp hx with hx | hx
    · exact (h4 x hx).mono (Fr.hide fr2)
    · rw [List.mem_singleton.mp hx]; exact vb
  · obtain ⟨h1, h2, h3, h4⟩ := h
    have h1 : acc.length = 6 := h1
    intro p hp
    have hap : a ≠ p := fun z => h3.ne (z ▸ hp)
    rw [h2.back]
    have hV1 : (S'.put p (MO.lst acc)).mem V = some (.lst vs) := by
      have e := h2.mem V _ (Ne.symm haV) hV
      have : V ≠ p := fun z => by subst z; have hp : S'.mem V = none := hp; rw [e] at hp; cases hp
      rw [DS.put_ne this]; exact e
    refine ⟨vs, acc, hV1, rfl, by rw [sz]; omega, fun p1 hp1 => ?_⟩
    have hap1 : a ≠ p1 := fun z => (h3.new (m := MO.lst acc) hp).ne (z ▸ hp1)
    have fr3 : Fr a S1 ((S'.put p (MO.lst acc)).put p1 (MO.lst (vs ++ acc))) := (h2.trans (Fr.new hp)).trans (Fr.new hp1)
    have hh : ∀ d ∈ vs ++ acc, Vd (((S'.put p (MO.lst acc)).put p1 (MO.lst (vs ++ acc))).hide a) d := fun d hd => by
      rcases List.mem_append.mp hd with hd | hd
      · exact (hv d hd).mono (Fr.hide fr3)
      · exact (h4 d hd).mono (Fr.hide ((Fr.new hp).trans (Fr.new hp1)))
    have pt3 : Pot ((S'.put p (MO.lst acc)).put p1 (MO.lst (vs ++ acc))) a n := ((h3.less (by omega)).new hp).new hp1
    have l1 : lstAt ((S'.put p (MO.lst acc)).put p1 (MO.lst (vs ++ acc))) p1 = some (vs ++ acc) := lstAt_put
    generalize (S'.put p (MO.lst acc)).put p1 (MO.lst (vs ++ acc)) = S4 at fr3 hh pt3 l1 ⊢
    have q1 := q S4 (fr.trans fr3) pt3
    generalize hO : lastT (M2.turns is) = o
    refine forS_ind (fun i ρ S' => S' = S4 ∧ ∃ x10, ρ = [some (.ref a), some (intsD is), some (tD o), some (.bl o.isSome), some (.ref V), p5, p6, p7, none, none, x10]) (fun i d ρ S' hd hP => ⟨?_, fun K hK => ?_⟩) (fun ρ S' hP => ⟨?_, ?_⟩) ⟨rfl, none, rfl⟩
    · rw [hP.1]; exact l1
    · obtain ⟨rfl, x10, rfl⟩ := hP
      have hd' : d ∈ vs ++ acc := List.mem_of_getElem? hd
      have vd : Vd S' d := (hh d hd').mono hide_le
      have nxt : ∀ b, K [some (.ref a), some (intsD is), some (tD o), some (.bl o.isSome), some (.ref V), p5, p6, p7, some d, none, some (.bl b)] S' := fun b => hK _ _ (fgt_of (.cons (.cons (.cons (.cons (.cons (.cons (.cons (.cons (.cons (.cons (.cons .nil (.inl rfl)) (.inl rfl)) (.inr rfl)) (.inl rfl)) (.inl rfl)) (.inl rfl)) (.inl rfl)) (.inl rfl)) (.inl rfl)) (.inl rfl)) (.inl rfl)) (LeS.refl _) ⟨rfl, _, rfl⟩)
      simp (config := {decide := true}) only [wpSs, DL.wpS, wpE, wpX, star_tup, star_ref, wpEs, wpEn, wpO, wpCh, wpB, wpBs, wpBo, wpI, wpT, wpTs, boolOf, startR, CTs.len, CEs.len, CEs.isNil, upto_ff, upto_tt, List.length_cons, List.length_nil, List.map_cons, List.map_nil, List.replicate, List.cons_append, List.nil_append, List.append_nil, List.set_cons_zero, List.set_cons_succ, bind_some, bind_none, getV_nil, getV_0s, getV_0n, getV_s, if_true, if_false, Bool.false_eq_true, ite_self, true_and, and_true, blt_len, blt_abs, blt_max, blt_min, blt_sum, blt_all, blt_any, blt_repr, blt_isi, lst_ref, len_tup, len_str, len_ref, bty_int, bty_bool, bty_str, bty_strs, bty_tup, bty_tupl, bty_lst, bty_lstl, bin_add, bin_sub, bin_mul, bin_div, bin_mod, bin_pow, bin_adds, bin_addt, bin_mult, bin_addl, cmp_lt, cmp_le, cmp_gt, cmp_ge, cmp_eq, cmp_ne, cmp_eqs, cmp_nes, cmp_eqt, cmp_net, cmp_is, cmp_isn, tru_non, tru_bl', tru_int, tru_str, tru_tup, tru_ref, neg_int, ix_tup', ix_str', ix_ref', sl_tup', sl_str', sl_ref', rev_tup', part_int, walk_tup, walk_ref, walk_str, rng_1, rng_2, set_ref, aug_add, aug_sub, rg_1, rg_2, atI_0, atI_1, atI_2, ixN3_0, ixN3_1, ixN3_2, ex_lst, DS.put_same, lstAt_put]
      cases hn : isNon d with
      | true =>
        have : d = .non := by cases d <;> first | rfl | cases hn
        subst this
        simp (config := {decide := true}) only [wpSs, DL.wpS, wpE, wpX, star_tup, star_ref, wpEs, wpEn, wpO, wpCh, wpB, wpBs, wpBo, wpI, wpT, wpTs, boolOf, startR, CTs.len, CEs.len, CEs.isNil, upto_ff, upto_tt, List.length_cons, List.length_nil, List.map_cons, List.map_nil, List.replicate, List.cons_append, List.nil_append, List.append_nil, List.set_cons_zero, List.set_cons_succ, bind_some, bind_none, getV_nil, getV_0s, getV_0n, getV_s, if_true, if_false, Bool.false_eq_true, ite_self, true_and, and_true, blt_len, blt_abs, blt_max, blt_min, blt_sum, blt_all, blt_any, blt_repr, blt_isi, lst_ref, len_tup, len_str, len_ref, bty_int, bty_bool, bty_str, bty_strs, bty_tup, bty_tupl, bty_lst, bty_lstl, bin_add, bin_sub, bin_mul, bin_div, bin_mod, bin_pow, bin_adds, bin_addt, bin_mult, bin_addl, cmp_lt, cmp_le, cmp_gt, cmp_ge, cmp_eq, cmp_ne, cmp_eqs, cmp_nes, cmp_eqt, cmp_net, cmp_is, cmp_isn, tru_non, tru_bl', tru_int, tru_str, tru_tup, tru_ref, neg_int, ix_tup', ix_str', ix_ref', sl_tup', sl_str', sl_ref', rev_tup', part_int, walk_tup, walk_ref, walk_str, rng_1, rng_2, set_ref, aug_add, aug_sub, rg_1, rg_2, atI_0, atI_1, atI_2, ixN3_0, ixN3_1, ixN3_2, ex_lst, DS.put_same, lstAt_put]
        refine ⟨_, _, rfl, hs.1.ty, vd, fun z => by rw [hs.ok] at z; (cases z), fun js e _ => ?_⟩
        rw [← ints_inj e]
        refine ⟨_, _, rfl, ?_⟩
        have e2 : (showsB is .non == !o.isSome) = true := by
          show ((lastT (M2.turns is)).isNone == !o.isSome) = true
          rw [hO]; cases o <;> rfl
        rw [e2]
        simp only [wpSs, DL.wpS, wpE, wpX, star_tup, star_ref, wpEs, wpEn, wpO, wpCh, wpB, wpBs, wpBo, wpI, wpT, wpTs, boolOf, startR, CTs.len, CEs.len, CEs.isNil, upto_ff, upto_tt, List.length_cons, List.length_nil, List.map_cons, List.map_nil, List.replicate, List.cons_append, List.nil_append, List.append_nil, List.set_cons_zero, List.set_cons_succ, bind_some, bind_none, getV_nil, getV_0s, getV_0n, getV_s, if_true, if_false, Bool.false_eq_true, ite_self, true_and, and_true, blt_len, blt_abs, blt_max, blt_min, blt_sum, blt_all, blt_any, blt_repr, blt_isi, lst_ref, len_tup, len_str, len_ref, bty_int, bty_bool, bty_str, bty_strs, bty_tup, bty_tupl, bty_lst, bty_lstl, bin_add, bin_sub, bin_mul, bin_div, bin_mod, bin_pow, bin_adds, bin_addt, bin_mult, bin_addl, cmp_lt, cmp_le, cmp_gt, cmp_ge, cmp_eq, cmp_ne, cmp_eqs, cmp_nes, cmp_eqt, cmp_net, cmp_is, cmp_isn, tru_non, tru_bl', tru_int, tru_str, tru_tup, tru_ref, neg_int, ix_tup', ix_str', ix_ref', sl_tup', sl_str', sl_ref', rev_tup', part_int, walk_tup, walk_ref, walk_str, rng_1, rng_2, set_ref, aug_add, aug_sub, rg_1, rg_2, atI_0, atI_1, atI_2, ixN3_0, ixN3_1, ixN3_2, ex_lst, DS.put_same, lstAt_put, Bool.not_true]
        exact nxt _
      | false =>
        simp only [Bool.false_eq_true, if_false]
        refine ⟨is, d, rfl, hs, vd, ?_⟩
        simp (config := {decide := true}) only [wpSs, DL.wpS, wpE, wpX, star_tup, star_ref, wpEs, wpEn, wpO, wpCh, wpB, wpBs, wpBo, wpI, wpT, wpTs, boolOf, startR, CTs.len, CEs.len, CEs.isNil, upto_ff, upto_tt, List.length_cons, List.length_nil, List.map_cons, List.map_nil, List.replicate, List.cons_append, List.nil_append, List.append_nil, List.set_cons_zero, List.set_cons_succ, bind_some, bind_none, getV_nil, getV_0s, getV_0n, getV_s, if_true, if_false, Bool.false_eq_true, ite_self, true_and, and_true, blt_len, blt_abs, blt_max, blt_min, blt_sum, blt_all, blt_any, blt_repr, blt_isi, lst_ref, len_tup, len_str, len_ref, bty_int, bty_bool, bty_str, bty_strs, bty_tup, bty_tupl, bty_lst, bty_lstl, bin_add, bin_sub, bin_mul, bin_div, bin_mod, bin_pow, bin_adds, bin_addt, bin_mult, bin_addl, cmp_lt, cmp_le, cmp_gt, cmp_ge, cmp_eq, cmp_ne, cmp_eqs, cmp_nes, cmp_eqt, cmp_net, cmp_is, cmp_isn, tru_non, tru_bl', tru_int, tru_str, tru_tup, tru_ref, neg_int, ix_tup', ix_str', ix_ref', sl_tup', sl_str', sl_ref', rev_tup', part_int, walk_tup, walk_ref, walk_str, rng_1, rng_2, set_ref, aug_add, aug_sub, rg_1, rg_2, atI_0, atI_1, atI_2, ixN3_0, ixN3_1, ixN3_2, ex_lst, DS.put_same, lstAt_put]
        refine ⟨_, _, rfl, hs.1.ty, vd, fun z => by rw [hs.ok] at z; (cases z), fun js e _ => ?_⟩
        rw [← ints_inj e]
        refine ⟨_, _, rfl, ?_⟩
        have e2 : showsB is d = threeB is d := by cases d <;> first | rfl | cases hn
        rw [e2, beq_self_eq_true]
        simp only [wpSs, DL.wpS, wpE, wpX, star_tup, star_ref, wpEs, wpEn, wpO, wpCh, wpB, wpBs, wpBo, wpI, wpT, wpTs, boolOf, startR, CTs.len, CEs.len, CEs.isNil, upto_ff, upto_tt, List.length_cons, List.length_nil, List.map_cons, List.map_nil, List.replicate, List.cons_append, List.nil_append, List.append_nil, List.set_cons_zero, List.set_cons_succ, bind_some, bind_none, getV_nil, getV_0s, getV_0n, getV_s, if_true, if_false, Bool.false_eq_true, ite_self, true_and, and_true, blt_len, blt_abs, blt_max, blt_min, blt_sum, blt_all, blt_any, blt_repr, blt_isi, lst_ref, len_tup, len_str, len_ref, bty_int, bty_bool, bty_str, bty_strs, bty_tup, bty_tupl, bty_lst, bty_lstl, bin_add, bin_sub, bin_mul, bin_div, bin_mod, bin_pow, bin_adds, bin_addt, bin_mult, bin_addl, cmp_lt, cmp_le, cmp_gt, cmp_ge, cmp_eq, cmp_ne, cmp_eqs, cmp_nes, cmp_eqt, cmp_net, cmp_is, cmp_isn, tru_non, tru_bl', tru_int, tru_str, tru_tup, tru_ref, neg_int, ix_tup', ix_str', ix_ref', sl_tup', sl_str', sl_ref', rev_tup', part_int, walk_tup, walk_ref, walk_str, rng_1, rng_2, set_ref, aug_add, aug_sub, rg_1, rg_2, atI_0, atI_1, atI_2, ixN3_0, ixN3_1, ixN3_2, ex_lst, DS.put_same, lstAt_put, Bool.not_true]
        exact nxt _
    · rw [hP.1]; exact l1
    · obtain ⟨rfl, _⟩ := hP
      refine fgtQ_to ?_
      rw [(fr.trans fr3).back]
      exact q1
theorem w27 (G : GS) (Γ : Ga) (g6 : Γ.fn 6 = c6) (g9 : Γ.fn 9 = c9) (g15 : Γ.fn 15 = cOdd) (g16 : Γ.fn 16 = cBent) (g17 : Γ.fn 17 = cIsBool) (g25 : Γ.fn 25 = c25) (g26 : Γ.fn 26 = c26) : Keeps G Γ F27 c27 := by
  rintro ds S Q E ⟨a, is, n, rfl, hs, hp, q⟩
  rw [wpSs_cut 4]
  have tl := @w27t G Γ g6 g9 g15 g16 g17 g25 g26 S Q E a
  generalize hT : F27.core.drop 4 = T at tl ⊢
  simp (config := {decide := true}) only [F27, CSs.take, wpSs, DL.wpS, wpE, wpX, star_tup, star_ref, wpEs, wpEn, wpO, wpCh, wpB, wpBs, wpBo, wpI, wpT, wpTs, boolOf, startR, CTs.len, CEs.len, CEs.isNil, upto_ff, upto_tt, List.length_cons, List.length_nil, List.map_cons, List.map_nil, List.replicate, List.cons_append, List.nil_append, List.append_nil, List.set_cons_zero, List.set_cons_succ, bind_some, bind_none, getV_nil, getV_0s, getV_0n, getV_s, if_true, if_false, Bool.false_eq_true, ite_self, true_and, and_true, blt_len, blt_abs, blt_max, blt_min, blt_sum, blt_all, blt_any, blt_repr, blt_isi, lst_ref, len_tup, len_str, len_ref, bty_int, bty_bool, bty_str, bty_strs, bty_tup, bty_tupl, bty_lst, bty_lstl, bin_add, bin_sub, bin_mul, bin_div, bin_mod, bin_pow, bin_adds, bin_addt, bin_mult, bin_addl, cmp_lt, cmp_le, cmp_gt, cmp_ge, cmp_eq, cmp_ne, cmp_eqs, cmp_nes, cmp_eqt, cmp_net, cmp_is, cmp_isn, tru_non, tru_bl', tru_int, tru_str, tru_tup, tru_ref, neg_int, ix_tup', ix_str', ix_ref', sl_tup', sl_str', sl_ref', rev_tup', part_int, walk_tup, walk_ref, walk_str, rng_1, rng_2, set_ref, aug_add, aug_sub, rg_1, rg_2, atI_0, atI_1, atI_2, ixN3_0, ixN3_1, ixN3_2, ex_lst, DS.put_same, lstAt_put, g6, g9, g15, g16, g17, g25, g26]
  have td := tD_ok hs
  refine ⟨_, rfl, hs.1.ty, fun js e _ => ?_, fun z => by rw [hs.ok] at z; cases z⟩
  rw [← ints_inj e]
  refine ⟨is, rfl, hs.1, cmp_neb ?_⟩
  have tl2 := @tl
  clear tl
  cases ho : lastT (M2.turns is) with
  | none =>
    rw [ho] at td
    simp only [isNon_tD, Option.isNone_none, Option.isSome_none, Bool.not_true, beq_self_eq_true, Bool.false_eq_true, if_false, tru_bl']
    refine ⟨a, n + 39, rfl, hp, fun d S1 fr1 pt1 vd p hp1 => ?_⟩
    have hap : a ≠ p := fun z => pt1.ne (z ▸ hp1)
    have h := fun vs hl hv => @tl2 p is n hs q vs none none none (S1.put p (.lst vs)) (fr1.trans (Fr.new hp1)) ((pt1.less (by omega)).new hp1) hap DS.put_same hl hv
    simp only [ho] at h
    refine h _ (by simp) fun x hx => ?_
    · have lu : LeM (S1.hide a) ((S1.put p (MO.lst [tD none, D.non, D.tup [], D.tup [D.int 0, D.int 0, D.int 0], D.tup [D.int 1, D.int 1, D.int 1], D.tup [D.bl true, D.int 1, D.int 1], d])).hide a) := Fr.hide (Fr.new hp1)
      simp only [List.mem_cons, List.not_mem_nil, or_false] at hx
      rcases hx with rfl | rfl | rfl | rfl | rfl | rfl | rfl
      · exact td.2 _
      · exact .inl (Vp.non.up (by decide) (by decide))
      · exact .inl (.lit rfl (by kernel_rfl))
      · exact .inl (.lit rfl (by kernel_rfl))
      · exact .inl (.lit rfl (by kernel_rfl))
      · exact .inl (.lit rfl (by kernel_rfl))
      · exact vd.mono lu
  | some t =>
    obtain ⟨x, y, z⟩ := t
    rw [ho] at td
    have cl := lastT_closes (M2.det_turns is) ho
    obtain ⟨b1, b2, b3⟩ := bd_last hs.1.bd ho
    have e3 : threeB is (tD (some (x, y, z))) = true := by
      show (decide (([x, y, z].map D.int).length = 3) && (([x, y, z].map D.int).all isWholeD && decide (M2.turns (is ++ rowOf (.tup ([x, y, z].map D.int))) = less))) = true
      have er : rowOf (.tup ([x, y, z].map D.int)) = [x, y, z] := by
        show (tupInts ([x, y, z].map D.int)).getD [] = _
        rw [tupInts_ints]; rfl
      rw [er, M2.turns_append, cl]
      rfl
    simp only [isNon_tD, Option.isNone_some, Option.isSome_some, Bool.not_false, beq_self_eq_true, Bool.not_true, Bool.false_eq_true, if_false, tru_bl', if_true]
    refine ⟨is, _, rfl, hs, td.2 S, ?_⟩
    rw [e3]
    simp only [tru_bl', Bool.not_true, Bool.false_eq_true, if_false]
    refine ⟨a, n + 39, rfl, hp, fun d S1 fr1 pt1 vd p hp1 => ?_⟩
    have hap : a ≠ p := fun z => pt1.ne (z ▸ hp1)
    have h := fun S5 fr pt vs hV hl hv => @tl2 p is n hs q vs (some (.int x)) (some (.int y)) (some (.int z)) S5 fr pt hap hV hl hv
    simp only [ho] at h
    clear tl2
    have lu : LeM (S1.hide a) ((S1.put p (MO.lst [tD (some (x, y, z)), D.non, D.tup [], D.tup [D.int 0, D.int 0, D.int 0], D.tup [D.int 1, D.int 1, D.int 1], D.tup [D.bl true, D.int 1, D.int 1], d])).hide a) := Fr.hide (Fr.new hp1)
    have vd2 := vd.mono lu
    have fr2 : Fr a S (S1.put p (MO.lst [tD (some (x, y, z)), D.non, D.tup [], D.tup [D.int 0, D.int 0, D.int 0], D.tup [D.int 1, D.int 1, D.int 1], D.tup [D.bl true, D.int 1, D.int 1], d])) := fr1.trans (Fr.new hp1)
    have fr12 : Fr a S1 (S1.put p (MO.lst [tD (some (x, y, z)), D.non, D.tup [], D.tup [D.int 0, D.int 0, D.int 0], D.tup [D.int 1, D.int 1, D.int 1], D.tup [D.bl true, D.int 1, D.int 1], d])) := Fr.new hp1
    have pt2 : Pot (S1.put p (MO.lst [tD (some (x, y, z)), D.non, D.tup [], D.tup [D.int 0, D.int 0, D.int 0], D.tup [D.int 1, D.int 1, D.int 1], D.tup [D.bl true, D.int 1, D.int 1], d])) a (n + 39) := pt1.new hp1
    have hm2 : (S1.put p (MO.lst [tD (some (x, y, z)), D.non, D.tup [], D.tup [D.int 0, D.int 0, D.int 0], D.tup [D.int 1, D.int 1, D.int 1], D.tup [D.bl true, D.int 1, D.int 1], d])).mem p = some (.lst [tD (some (x, y, z)), D.non, D.tup [], D.tup [D.int 0, D.int 0, D.int 0], D.tup [D.int 1, D.int 1, D.int 1], D.tup [D.bl true, D.int 1, D.int 1], d]) := DS.put_same
    generalize S1.put p (MO.lst [tD (some (x, y, z)), D.non, D.tup [], D.tup [D.int 0, D.int 0, D.int 0], D.tup [D.int 1, D.int 1, D.int 1], D.tup [D.bl true, D.int 1, D.int 1], d]) = S2 at vd2 fr2 fr12 pt2 hm2 ⊢
    simp (config := {decide := true}) only [tD, intsD, wpSs, DL.wpS, wpE, wpX, star_tup, star_ref, wpEs, wpEn, wpO, wpCh, wpB, wpBs, wpBo, wpI, wpT, wpTs, boolOf, startR, CTs.len, CEs.len, CEs.isNil, upto_ff, upto_tt, List.length_cons, List.length_nil, List.map_cons, List.map_nil, List.replicate, List.cons_append, List.nil_append, List.append_nil, List.set_cons_zero, List.set_cons_succ, bind_some, bind_none, getV_nil, getV_0s, getV_0n, getV_s, if_true, if_false, Bool.false_eq_true, ite_self, true_and, and_true, blt_len, blt_abs, blt_max, blt_min, blt_sum, blt_all, blt_any, blt_repr, blt_isi, lst_ref, len_tup, len_str, len_ref, bty_int, bty_bool, bty_str, bty_strs, bty_tup, bty_tupl, bty_lst, bty_lstl, bin_add, bin_sub, bin_mul, bin_div, bin_mod, bin_pow, bin_adds, bin_addt, bin_mult, bin_addl, cmp_lt, cmp_le, cmp_gt, cmp_ge, cmp_eq, cmp_ne, cmp_eqs, cmp_nes, cmp_eqt, cmp_net, cmp_is, cmp_isn, tru_non, tru_bl', tru_int, tru_str, tru_tup, tru_ref, neg_int, ix_tup', ix_str', ix_ref', sl_tup', sl_str', sl_ref', rev_tup', part_int, walk_tup, walk_ref, walk_str, rng_1, rng_2, set_ref, aug_add, aug_sub, rg_1, rg_2, atI_0, atI_1, atI_2, ixN3_0, ixN3_1, ixN3_2, ex_lst, DS.put_same, lstAt_put, met_extend hm2, List.reverse_cons, List.reverse_nil]
    intro pl hpl pr hpr
    rw [put_none] at hpr
    have npl : p ≠ pl := fun z => by subst z; rw [hm2] at hpl; cases hpl
    have npr : p ≠ pr := fun z => by subst z; rw [hm2] at hpr; cases hpr.2
    have apl : a ≠ pl := fun z => pt2.ne (z ▸ hpl)
    have apr : a ≠ pr := fun z => pt2.ne (z ▸ hpr.2)
    have sp : S.mem p = none := by
      cases e : S.mem p with
      | none => rfl
      | some o => rw [fr1.mem p o (Ne.symm hap) e] at hp1; cases hp1
    refine mets_extend (xs := [tD (some (x, y, z)), D.non, D.tup [], D.tup [D.int 0, D.int 0, D.int 0], D.tup [D.int 1, D.int 1, D.int 1], D.tup [D.bl true, D.int 1, D.int 1], d]) (by rw [DS.put_ne npr, DS.put_ne npl]; exact hm2) DS.put_same (by simp [sizeLine_eq]) ?_
    have fr5 := Fr.set (m := MO.lst ([tD (some (x, y, z)), D.non, D.tup [], D.tup [D.int 0, D.int 0, D.int 0], D.tup [D.int 1, D.int 1, D.int 1], D.tup [D.bl true, D.int 1, D.int 1], d] ++ [D.ref pl, D.tup [D.int z, D.int y, D.int x], D.tup [D.int (x + 1), D.int y, D.int z], D.tup [D.int (x + 1), D.int y, D.int (z - 1)], D.tup [D.int x, D.int y, D.int (z + 1)], D.tup [D.int x, D.int y]]))
      ((fr2.trans (Fr.new (m := MO.lst [D.int x, D.int y, D.int z]) hpl)).trans (Fr.new (m := MO.lst [D.ref pl, D.tup [D.int z, D.int y, D.int x], D.tup [D.int (x + 1), D.int y, D.int z], D.tup [D.int (x + 1), D.int y, D.int (z - 1)], D.tup [D.int x, D.int y, D.int (z + 1)], D.tup [D.int x, D.int y]]) (by rw [put_none]; exact hpr))) sp hap
    have pt5 := Pot.set (x := p) (m := MO.lst ([tD (some (x, y, z)), D.non, D.tup [], D.tup [D.int 0, D.int 0, D.int 0], D.tup [D.int 1, D.int 1, D.int 1], D.tup [D.bl true, D.int 1, D.int 1], d] ++ [D.ref pl, D.tup [D.int z, D.int y, D.int x], D.tup [D.int (x + 1), D.int y, D.int z], D.tup [D.int (x + 1), D.int y, D.int (z - 1)], D.tup [D.int x, D.int y, D.int (z + 1)], D.tup [D.int x, D.int y]]))
      ((pt2.new (m := MO.lst [D.int x, D.int y, D.int z]) hpl).new (p := pr) (m := MO.lst [D.ref pl, D.tup [D.int z, D.int y, D.int x], D.tup [D.int (x + 1), D.int y, D.int z], D.tup [D.int (x + 1), D.int y, D.int (z - 1)], D.tup [D.int x, D.int y, D.int (z + 1)], D.tup [D.int x, D.int y]]) (by rw [put_none]; exact hpr)) hap
    refine h _ fr5 (pt5.less (by omega)) _ DS.put_same (by simp) fun u hu => ?_
    have mpl : ((((S2.put pl (MO.lst [D.int x, D.int y, D.int z])).put pr (MO.lst [D.ref pl, D.tup [D.int z, D.int y, D.int x], D.tup [D.int (x + 1), D.int y, D.int z], D.tup [D.int (x + 1), D.int y, D.int (z - 1)], D.tup [D.int x, D.int y, D.int (z + 1)], D.tup [D.int x, D.int y]])).put p (MO.lst ([tD (some (x, y, z)), D.non, D.tup [], D.tup [D.int 0, D.int 0, D.int 0], D.tup [D.int 1, D.int 1, D.int 1], D.tup [D.bl true, D.int 1, D.int 1], d] ++ [D.ref pl, D.tup [D.int z, D.int y, D.int x], D.tup [D.int (x + 1), D.int y, D.int z], D.tup [D.int (x + 1), D.int y, D.int (z - 1)], D.tup [D.int x, D.int y, D.int (z + 1)], D.tup [D.int x, D.int y]]))).hide a).mem pl = some (.lst [D.int x, D.int y, D.int z]) := by
      show (if pl = a then none else _) = _
      rw [if_neg (Ne.symm apl), DS.put_ne (Ne.symm npl), DS.put_ne (Ne.symm hpr.1), DS.put_same]
    have lu5 : LeM (S1.hide a) ((((S2.put pl (MO.lst [D.int x, D.int y, D.int z])).put pr (MO.lst [D.ref pl, D.tup [D.int z, D.int y, D.int x], D.tup [D.int (x + 1), D.int y, D.int z], D.tup [D.int (x + 1), D.int y, D.int (z - 1)], D.tup [D.int x, D.int y, D.int (z + 1)], D.tup [D.int x, D.int y]])).put p (MO.lst ([tD (some (x, y, z)), D.non, D.tup [], D.tup [D.int 0, D.int 0, D.int 0], D.tup [D.int 1, D.int 1, D.int 1], D.tup [D.bl true, D.int 1, D.int 1], d] ++ [D.ref pl, D.tup [D.int z, D.int y, D.int x], D.tup [D.int (x + 1), D.int y, D.int z], D.tup [D.int (x + 1), D.int y, D.int (z - 1)], D.tup [D.int x, D.int y, D.int (z + 1)], D.tup [D.int x, D.int y]]))).hide a) := by
      exact Fr.hide (Fr.set (m := MO.lst ([tD (some (x, y, z)), D.non, D.tup [], D.tup [D.int 0, D.int 0, D.int 0], D.tup [D.int 1, D.int 1, D.int 1], D.tup [D.bl true, D.int 1, D.int 1], d] ++ [D.ref pl, D.tup [D.int z, D.int y, D.int x], D.tup [D.int (x + 1), D.int y, D.int z], D.tup [D.int (x + 1), D.int y, D.int (z - 1)], D.tup [D.int x, D.int y, D.int (z + 1)], D.tup [D.int x, D.int y]]))
        ((fr12.trans (Fr.new (m := MO.lst [D.int x, D.int y, D.int z]) hpl)).trans (Fr.new (m := MO.lst [D.ref pl, D.tup [D.int z, D.int y, D.int x], D.tup [D.int (x + 1), D.int y, D.int z], D.tup [D.int (x + 1), D.int y, D.int (z - 1)], D.tup [D.int x, D.int y, D.int (z + 1)], D.tup [D.int x, D.int y]]) (by rw [put_none]; exact hpr))) hp1 hap)
    have vd5 := vd.mono lu5
    clear lu5 h
    generalize (DS.hide _ a) = U at mpl vd5 ⊢
    have one : bd 852 1 := DL.bd.mono (n := 1) (by decide) (by decide)
    have c1 := b1.add one
    have c2 := b3.sub one
    have c3 := b3.add one
    have vi : ∀ is : List Int, is.length ≤ 3 → (∀ i ∈ is, bd 853 i) → Vd U (intsD is) := fun is l h => .inl ((Vp_ints (by decide) h).up (by omega) (by decide))
    have b1 : bd 853 x := b1.mono (by decide)
    have b2 : bd 853 y := b2.mono (by decide)
    have b3 : bd 853 z := b3.mono (by decide)
    simp only [List.cons_append, List.nil_append, List.mem_cons, List.not_mem_nil, or_false] at hu
    rcases hu with rfl | rfl | rfl | rfl | rfl | rfl | rfl | rfl | rfl | rfl | rfl | rfl | rfl
    · exact td.2 _
    · exact .inl (Vp.non.up (by decide) (by decide))
    · exact .inl (.lit rfl (by kernel_rfl))
    · exact .inl (.lit rfl (by kernel_rfl))
    · exact .inl (.lit rfl (by kernel_rfl))
    · exact .inl (.lit rfl (by kernel_rfl))
    · exact vd5
    · exact .inl ((Vl.lst (S := emp) (Vl_ints (n := 853) (by decide) (is := [x, y, z]) (by simp only [List.mem_cons, List.not_mem_nil, or_false]; rintro i (rfl | rfl | rfl) <;> assumption)) (lstAt_lst mpl)).up (by simp) (by decide))
    · exact vi [z, y, x] (by simp) (by simp only [List.mem_cons, List.not_mem_nil, or_false]; rintro i (rfl | rfl | rfl) <;> assumption)
    · exact vi [x + 1, y, z] (by simp) (by simp only [List.mem_cons, List.not_mem_nil, or_false]; rintro i (rfl | rfl | rfl) <;> assumption)
    · exact vi [x + 1, y, z - 1] (by simp) (by simp only [List.mem_cons, List.not_mem_nil, or_false]; rintro i (rfl | rfl | rfl) <;> assumption)
    · exact vi [x, y, z + 1] (by simp) (by simp only [List.mem_cons, List.not_mem_nil, or_false]; rintro i (rfl | rfl | rfl) <;> assumption)
    · exact vi [x, y] (by simp) (by simp only [List.mem_cons, List.not_mem_nil, or_false]; rintro i (rfl | rfl) <;> assumption)
end K02

namespace K02
open PySem DL LK
def CLsh : FC := fun ds S Q E => ∃ v, ds = [v] ∧ c9 [v, .non] S Q E
structure LcOk (G : GS) (Γ : Ga) : Prop where
  l0 : Γ.lc 0 = some (1, c6)
  l1 : Γ.lc 1 = some (1, CLsh)
  l2 : Γ.lc 2 = some (1, CLis G Γ "BadRow")
  x1 : ("BadRow" : Str) ∈ Γ.exn
  s1 : G.sub "BadRow" "FenceError" = true
  s3 : G.sub "BadRow" "BadRow" = true
theorem l0 (G : GS) (Γ : Ga) (g : Γ.fn 6 = c6) : LKeeps G Γ Lm0 c6 := by
  rintro ds S Q E ⟨v, rfl, t, q1, q2⟩
  simp (config := {decide := true}) only [Lm0, wpSs, DL.wpS, wpE, wpX, star_tup, star_ref, wpEs, wpEn, wpO, wpCh, wpB, wpBs, wpBo, wpI, wpT, wpTs, boolOf, startR, CTs.len, CEs.len, CEs.isNil, upto_ff, upto_tt, List.length_cons, List.length_nil, List.map_cons, List.map_nil, List.replicate, List.cons_append, List.nil_append, List.append_nil, List.set_cons_zero, List.set_cons_succ, bind_some, bind_none, getV_nil, getV_0s, getV_0n, getV_s, if_true, if_false, Bool.false_eq_true, ite_self, true_and, and_true, blt_len, blt_abs, blt_max, blt_min, blt_sum, blt_all, blt_any, blt_repr, blt_isi, lst_ref, len_tup, len_str, len_ref, bty_int, bty_bool, bty_str, bty_strs, bty_tup, bty_tupl, bty_lst, bty_lstl, bin_add, bin_sub, bin_mul, bin_div, bin_mod, bin_pow, bin_adds, bin_addt, bin_mult, bin_addl, cmp_lt, cmp_le, cmp_gt, cmp_ge, cmp_eq, cmp_ne, cmp_eqs, cmp_nes, cmp_eqt, cmp_net, cmp_is, cmp_isn, tru_non, tru_bl', tru_int, tru_str, tru_tup, tru_ref, neg_int, ix_tup', ix_str', ix_ref', sl_tup', sl_str', sl_ref', rev_tup', part_int, walk_tup, walk_ref, walk_str, rng_1, rng_2, set_ref, aug_add, aug_sub, rg_1, rg_2, atI_0, atI_1, atI_2, ixN3_0, ixN3_1, ixN3_2, ex_lst, DS.put_same, lstAt_put, g]
  exact ⟨v, rfl, t, fun is e h => fgtQ_same (q1 is e h), fun h => eE_same (q2 h)⟩
theorem l1 (G : GS) (Γ : Ga) (g : Γ.fn 9 = c9) : LKeeps G Γ Lm1 CLsh := by
  rintro ds S Q E ⟨v, rfl, v', x, e, t, t2, q1, q2⟩
  cases e
  simp (config := {decide := true}) only [Lm1, wpSs, DL.wpS, wpE, wpX, star_tup, star_ref, wpEs, wpEn, wpO, wpCh, wpB, wpBs, wpBo, wpI, wpT, wpTs, boolOf, startR, CTs.len, CEs.len, CEs.isNil, upto_ff, upto_tt, List.length_cons, List.length_nil, List.map_cons, List.map_nil, List.replicate, List.cons_append, List.nil_append, List.append_nil, List.set_cons_zero, List.set_cons_succ, bind_some, bind_none, getV_nil, getV_0s, getV_0n, getV_s, if_true, if_false, Bool.false_eq_true, ite_self, true_and, and_true, blt_len, blt_abs, blt_max, blt_min, blt_sum, blt_all, blt_any, blt_repr, blt_isi, lst_ref, len_tup, len_str, len_ref, bty_int, bty_bool, bty_str, bty_strs, bty_tup, bty_tupl, bty_lst, bty_lstl, bin_add, bin_sub, bin_mul, bin_div, bin_mod, bin_pow, bin_adds, bin_addt, bin_mult, bin_addl, cmp_lt, cmp_le, cmp_gt, cmp_ge, cmp_eq, cmp_ne, cmp_eqs, cmp_nes, cmp_eqt, cmp_net, cmp_is, cmp_isn, tru_non, tru_bl', tru_int, tru_str, tru_tup, tru_ref, neg_int, ix_tup', ix_str', ix_ref', sl_tup', sl_str', sl_ref', rev_tup', part_int, walk_tup, walk_ref, walk_str, rng_1, rng_2, set_ref, aug_add, aug_sub, rg_1, rg_2, atI_0, atI_1, atI_2, ixN3_0, ixN3_1, ixN3_2, ex_lst, DS.put_same, lstAt_put, g]
  exact ⟨v, .non, rfl, t, t2, fun h => eE_same (q1 h), fun is e h => fgtQ_same (q2 is e h)⟩
theorem l2 (G : GS) (Γ : Ga) : LKeeps G Γ Lm2 (CLis G Γ "BadRow") := by
  rintro ds S Q E ⟨m, d, rfl, hm, q⟩
  simp (config := {decide := true}) only [Lm2, wpSs, DL.wpS, wpE, wpX, star_tup, star_ref, wpEs, wpEn, wpO, wpCh, wpB, wpBs, wpBo, wpI, wpT, wpTs, boolOf, startR, CTs.len, CEs.len, CEs.isNil, upto_ff, upto_tt, List.length_cons, List.length_nil, List.map_cons, List.map_nil, List.replicate, List.cons_append, List.nil_append, List.append_nil, List.set_cons_zero, List.set_cons_succ, bind_some, bind_none, getV_nil, getV_0s, getV_0n, getV_s, if_true, if_false, Bool.false_eq_true, ite_self, true_and, and_true, blt_len, blt_abs, blt_max, blt_min, blt_sum, blt_all, blt_any, blt_repr, blt_isi, lst_ref, len_tup, len_str, len_ref, bty_int, bty_bool, bty_str, bty_strs, bty_tup, bty_tupl, bty_lst, bty_lstl, bin_add, bin_sub, bin_mul, bin_div, bin_mod, bin_pow, bin_adds, bin_addt, bin_mult, bin_addl, cmp_lt, cmp_le, cmp_gt, cmp_ge, cmp_eq, cmp_ne, cmp_eqs, cmp_nes, cmp_eqt, cmp_net, cmp_is, cmp_isn, tru_non, tru_bl', tru_int, tru_str, tru_tup, tru_ref, neg_int, ix_tup', ix_str', ix_ref', sl_tup', sl_str', sl_ref', rev_tup', part_int, walk_tup, walk_ref, walk_str, rng_1, rng_2, set_ref, aug_add, aug_sub, rg_1, rg_2, atI_0, atI_1, atI_2, ixN3_0, ixN3_1, ixN3_2, ex_lst, DS.put_same, lstAt_put]
  refine ⟨fun n d' e => by (cases e; exact hm), ?_⟩
  simp (config := {decide := true}) only [isiS, wpSs, DL.wpS, wpE, wpX, star_tup, star_ref, wpEs, wpEn, wpO, wpCh, wpB, wpBs, wpBo, wpI, wpT, wpTs, boolOf, startR, CTs.len, CEs.len, CEs.isNil, upto_ff, upto_tt, List.length_cons, List.length_nil, List.map_cons, List.map_nil, List.replicate, List.cons_append, List.nil_append, List.append_nil, List.set_cons_zero, List.set_cons_succ, bind_some, bind_none, getV_nil, getV_0s, getV_0n, getV_s, if_true, if_false, Bool.false_eq_true, ite_self, true_and, and_true, blt_len, blt_abs, blt_max, blt_min, blt_sum, blt_all, blt_any, blt_repr, blt_isi, lst_ref, len_tup, len_str, len_ref, bty_int, bty_bool, bty_str, bty_strs, bty_tup, bty_tupl, bty_lst, bty_lstl, bin_add, bin_sub, bin_mul, bin_div, bin_mod, bin_pow, bin_adds, bin_addt, bin_mult, bin_addl, cmp_lt, cmp_le, cmp_gt, cmp_ge, cmp_eq, cmp_ne, cmp_eqs, cmp_nes, cmp_eqt, cmp_net, cmp_is, cmp_isn, tru_non, tru_bl', tru_int, tru_str, tru_tup, tru_ref, neg_int, ix_tup', ix_str', ix_ref', sl_tup', sl_str', sl_ref', rev_tup', part_int, walk_tup, walk_ref, walk_str, rng_1, rng_2, set_ref, aug_add, aug_sub, rg_1, rg_2, atI_0, atI_1, atI_2, ixN3_0, ixN3_1, ixN3_2, ex_lst, DS.put_same, lstAt_put]
  exact fgtQ_same q
def c29 : FC := fun ds S Q _ => ∃ a, ds = [.ref a] ∧ Pot S a 1000 ∧ ∀ S', Fr a S S' → Q (.bl true) S'
theorem w29 (G : GS) (Γ : Ga) (g6 : Γ.fn 6 = c6) (g12 : Γ.fn 12 = cOf) (g23 : Γ.fn 23 = cRefused Γ G) (g27 : Γ.fn 27 = c27) (g28 : Γ.fn 28 = c28) (hL : LcOk G Γ) : Keeps G Γ F29 c29 := by
  rintro ds S Q E ⟨a, rfl, hp, q⟩
  simp (config := {decide := true}) only [F29, wpSs, DL.wpS, wpE, wpX, star_tup, star_ref, wpEs, wpEn, wpO, wpCh, wpB, wpBs, wpBo, wpI, wpT, wpTs, boolOf, startR, CTs.len, CEs.len, CEs.isNil, upto_ff, upto_tt, List.length_cons, List.length_nil, List.map_cons, List.map_nil, List.replicate, List.cons_append, List.nil_append, List.append_nil, List.set_cons_zero, List.set_cons_succ, bind_some, bind_none, getV_nil, getV_0s, getV_0n, getV_s, if_true, if_false, Bool.false_eq_true, ite_self, true_and, and_true, blt_len, blt_abs, blt_max, blt_min, blt_sum, blt_all, blt_any, blt_repr, blt_isi, lst_ref, len_tup, len_str, len_ref, bty_int, bty_bool, bty_str, bty_strs, bty_tup, bty_tupl, bty_lst, bty_lstl, bin_add, bin_sub, bin_mul, bin_div, bin_mod, bin_pow, bin_adds, bin_addt, bin_mult, bin_addl, cmp_lt, cmp_le, cmp_gt, cmp_ge, cmp_eq, cmp_ne, cmp_eqs, cmp_nes, cmp_eqt, cmp_net, cmp_is, cmp_isn, tru_non, tru_bl', tru_int, tru_str, tru_tup, tru_ref, neg_int, ix_tup', ix_str', ix_ref', sl_tup', sl_str', sl_ref', rev_tup', part_int, walk_tup, walk_ref, walk_str, rng_1, rng_2, set_ref, aug_add, aug_sub, rg_1, rg_2, atI_0, atI_1, atI_2, ixN3_0, ixN3_1, ixN3_2, ex_lst, DS.put_same, lstAt_put, g6, g12, g23, g27, g28]
  refine ⟨by constructor <;> decide, ?_⟩
  refine forS_ind (fun i ρ S' => ρ = [some (.ref a), none, none, none] ∧ Fr a S S' ∧ Pot S' a (1000 - 100 * i)) (fun i d ρ S' hd h => ⟨trivial, fun K hK => ?_⟩) (fun ρ S' h => ⟨trivial, ?_⟩) ⟨rfl, Fr.refl a S, hp⟩
  · obtain ⟨rfl, fr, pt⟩ := h
    have hi : i < 6 := (rngD_get hd).1
    simp (config := {decide := true}) only [wpSs, DL.wpS, wpE, wpX, star_tup, star_ref, wpEs, wpEn, wpO, wpCh, wpB, wpBs, wpBo, wpI, wpT, wpTs, boolOf, startR, CTs.len, CEs.len, CEs.isNil, upto_ff, upto_tt, List.length_cons, List.length_nil, List.map_cons, List.map_nil, List.replicate, List.cons_append, List.nil_append, List.append_nil, List.set_cons_zero, List.set_cons_succ, bind_some, bind_none, getV_nil, getV_0s, getV_0n, getV_s, if_true, if_false, Bool.false_eq_true, ite_self, true_and, and_true, blt_len, blt_abs, blt_max, blt_min, blt_sum, blt_all, blt_any, blt_repr, blt_isi, lst_ref, len_tup, len_str, len_ref, bty_int, bty_bool, bty_str, bty_strs, bty_tup, bty_tupl, bty_lst, bty_lstl, bin_add, bin_sub, bin_mul, bin_div, bin_mod, bin_pow, bin_adds, bin_addt, bin_mult, bin_addl, cmp_lt, cmp_le, cmp_gt, cmp_ge, cmp_eq, cmp_ne, cmp_eqs, cmp_nes, cmp_eqt, cmp_net, cmp_is, cmp_isn, tru_non, tru_bl', tru_int, tru_str, tru_tup, tru_ref, neg_int, ix_tup', ix_str', ix_ref', sl_tup', sl_str', sl_ref', rev_tup', part_int, walk_tup, walk_ref, walk_str, rng_1, rng_2, set_ref, aug_add, aug_sub, rg_1, rg_2, atI_0, atI_1, atI_2, ixN3_0, ixN3_1, ixN3_2, ex_lst, DS.put_same, lstAt_put]
    refine ⟨a, 1000 - 100 * i - 40, rfl, pt.less (by omega), fun is S2 fr2 pt2 hs => ?_⟩
    refine ⟨a, is, 1000 - 100 * i - 80, rfl, hs, pt2.less (by omega), fun S3 fr3 pt3 => ?_⟩
    simp (config := {decide := true}) only [wpSs, DL.wpS, wpE, wpX, star_tup, star_ref, wpEs, wpEn, wpO, wpCh, wpB, wpBs, wpBo, wpI, wpT, wpTs, boolOf, startR, CTs.len, CEs.len, CEs.isNil, upto_ff, upto_tt, List.length_cons, List.length_nil, List.map_cons, List.map_nil, List.replicate, List.cons_append, List.nil_append, List.append_nil, List.set_cons_zero, List.set_cons_succ, bind_some, bind_none, getV_nil, getV_0s, getV_0n, getV_s, if_true, if_false, Bool.false_eq_true, ite_self, true_and, and_true, blt_len, blt_abs, blt_max, blt_min, blt_sum, blt_all, blt_any, blt_repr, blt_isi, lst_ref, len_tup, len_str, len_ref, bty_int, bty_bool, bty_str, bty_strs, bty_tup, bty_tupl, bty_lst, bty_lstl, bin_add, bin_sub, bin_mul, bin_div, bin_mod, bin_pow, bin_adds, bin_addt, bin_mult, bin_addl, cmp_lt, cmp_le, cmp_gt, cmp_ge, cmp_eq, cmp_ne, cmp_eqs, cmp_nes, cmp_eqt, cmp_net, cmp_is, cmp_isn, tru_non, tru_bl', tru_int, tru_str, tru_tup, tru_ref, neg_int, ix_tup', ix_str', ix_ref', sl_tup', sl_str', sl_ref', rev_tup', part_int, walk_tup, walk_ref, walk_str, rng_1, rng_2, set_ref, aug_add, aug_sub, rg_1, rg_2, atI_0, atI_1, atI_2, ixN3_0, ixN3_1, ixN3_2, ex_lst, DS.put_same, lstAt_put, Bool.not_true]
    exact hK _ _ (fgt_of (.cons (.cons (.cons (.cons .nil (.inl rfl)) (.inl rfl)) (.inr rfl)) (.inl rfl)) (LeS.refl _) ⟨rfl, (fr.trans fr2).trans fr3, pt3.less (by omega)⟩)
  · obtain ⟨rfl, fr, pt⟩ := h
    rw [rngD_len] at pt
    have pt : Pot S' a 400 := pt
    simp (config := {decide := true}) only [wpSs, DL.wpS, wpE, wpX, star_tup, star_ref, wpEs, wpEn, wpO, wpCh, wpB, wpBs, wpBo, wpI, wpT, wpTs, boolOf, startR, CTs.len, CEs.len, CEs.isNil, upto_ff, upto_tt, List.length_cons, List.length_nil, List.map_cons, List.map_nil, List.replicate, List.cons_append, List.nil_append, List.append_nil, List.set_cons_zero, List.set_cons_succ, bind_some, bind_none, getV_nil, getV_0s, getV_0n, getV_s, if_true, if_false, Bool.false_eq_true, ite_self, true_and, and_true, blt_len, blt_abs, blt_max, blt_min, blt_sum, blt_all, blt_any, blt_repr, blt_isi, lst_ref, len_tup, len_str, len_ref, bty_int, bty_bool, bty_str, bty_strs, bty_tup, bty_tupl, bty_lst, bty_lstl, bin_add, bin_sub, bin_mul, bin_div, bin_mod, bin_pow, bin_adds, bin_addt, bin_mult, bin_addl, cmp_lt, cmp_le, cmp_gt, cmp_ge, cmp_eq, cmp_ne, cmp_eqs, cmp_nes, cmp_eqt, cmp_net, cmp_is, cmp_isn, tru_non, tru_bl', tru_int, tru_str, tru_tup, tru_ref, neg_int, ix_tup', ix_str', ix_ref', sl_tup', sl_str', sl_ref', rev_tup', part_int, walk_tup, walk_ref, walk_str, rng_1, rng_2, set_ref, aug_add, aug_sub, rg_1, rg_2, atI_0, atI_1, atI_2, ixN3_0, ixN3_1, ixN3_2, ex_lst, DS.put_same, lstAt_put]
    have sh : ∀ is : List Int, is.length ≤ 37 → (∀ i ∈ is, i.natAbs ≤ 10) → Short is := fun is l h => ⟨⟨by omega, fun i hi => by have := h i hi; omega⟩, l⟩
    have u6 : ∀ (is : List Int) (o : Option (Int × Int × Int)) (S1 : DS) (Q1 : QE) (E1 : EX), Short is → lastT (M2.turns is) = o → Q1 (tD o) S1 → c6 [intsD is] S1 Q1 E1 := fun is o S1 Q1 E1 h e q => ⟨_, rfl, h.1.ty, fun js e2 _ => by rw [← ints_inj e2, e]; exact q, fun z => by rw [h.ok] at z; cases z⟩
    have ce : ∀ (x y z : Int) (S1 : DS) (K : Bool → Prop), bd 10 x → bd 10 y → bd 10 z → K false → cmpS .NotEq (tD (some (x, y, z))) (.tup [.int x, .int y, .int z]) S1 K := fun x y z S1 K h1 h2 h3 k =>
      cmp_same (Vp_ints (S := S1) (n := 10) (is := [x, y, z]) (by decide) (by simp only [List.mem_cons, List.not_mem_nil, or_false]; rintro i (rfl | rfl | rfl) <;> assumption)) (by decide) k
    refine u6 (List.replicate 37 2) (some (1, 38, 1)) _ _ _ (sh _ (by simp) (fun i hi => by rw [List.eq_of_mem_replicate hi]; decide)) (by decide +kernel) (ce _ _ _ _ _ (by decide) (by decide) (by decide) ?_)
    simp only [Bool.false_eq_true, if_false]
    refine u6 (List.replicate 36 0) (some (1, 1, 1)) _ _ _ (sh _ (by simp) (fun i hi => by rw [List.eq_of_mem_replicate hi]; decide)) (by decide +kernel) (ce _ _ _ _ _ (by decide) (by decide) (by decide) ?_)
    simp only [Bool.false_eq_true, if_false]
    refine u6 [] (some (1, 1, 1)) _ _ _ (sh _ (by simp) (by simp)) (by decide +kernel) (ce _ _ _ _ _ (by decide) (by decide) (by decide) ?_)
    simp only [Bool.false_eq_true, if_false]
    refine u6 [0] none _ _ _ (sh _ (by simp) (by simp)) (by decide +kernel) ?_
    simp only [tD, isNon, Bool.not_true, Bool.false_eq_true, if_false]
    refine ⟨a, [0, 0, 0], 300, rfl, sh _ (by simp) (by simp), pt.less (by decide), fun S1 fr1 pt1 => ?_⟩
    simp (config := {decide := true}) only [wpSs, DL.wpS, wpE, wpX, star_tup, star_ref, wpEs, wpEn, wpO, wpCh, wpB, wpBs, wpBo, wpI, wpT, wpTs, boolOf, startR, CTs.len, CEs.len, CEs.isNil, upto_ff, upto_tt, List.length_cons, List.length_nil, List.map_cons, List.map_nil, List.replicate, List.cons_append, List.nil_append, List.append_nil, List.set_cons_zero, List.set_cons_succ, bind_some, bind_none, getV_nil, getV_0s, getV_0n, getV_s, if_true, if_false, Bool.false_eq_true, ite_self, true_and, and_true, blt_len, blt_abs, blt_max, blt_min, blt_sum, blt_all, blt_any, blt_repr, blt_isi, lst_ref, len_tup, len_str, len_ref, bty_int, bty_bool, bty_str, bty_strs, bty_tup, bty_tupl, bty_lst, bty_lstl, bin_add, bin_sub, bin_mul, bin_div, bin_mod, bin_pow, bin_adds, bin_addt, bin_mult, bin_addl, cmp_lt, cmp_le, cmp_gt, cmp_ge, cmp_eq, cmp_ne, cmp_eqs, cmp_nes, cmp_eqt, cmp_net, cmp_is, cmp_isn, tru_non, tru_bl', tru_int, tru_str, tru_tup, tru_ref, neg_int, ix_tup', ix_str', ix_ref', sl_tup', sl_str', sl_ref', rev_tup', part_int, walk_tup, walk_ref, walk_str, rng_1, rng_2, set_ref, aug_add, aug_sub, rg_1, rg_2, atI_0, atI_1, atI_2, ixN3_0, ixN3_1, ixN3_2, ex_lst, DS.put_same, lstAt_put, Bool.not_true]
    have pw6 : powOk 10 6 := powOk_bd (n := 4) (k := 6) (by decide) (by decide)
    intro p1 hp1
    have ha1 : a ≠ p1 := fun z => pt1.ne (z ▸ hp1)
    refine ⟨pw6, fun p2 hp2 => ?_⟩
    have hp2' := hp2
    rw [put_none] at hp2'
    have ha2 : a ≠ p2 := fun z => pt1.ne (z ▸ hp2'.2)
    have fr1' : Fr a S S1 := fr.trans fr1
    refine ⟨a, p2, _, 299, rfl, ha2, (pt1.new (m := MO.lst [D.int 1]) hp1).new hp2, lstAt_put, by simp, by simp, fun v hv S3 fr3 pt3 => ?_⟩
    have e6 : (10 : Int) ^ Int.toNat 6 + 1 = 1000001 := by decide
    have e38 : (List.replicate (Int.toNat 38) [D.int 1]).flatten = List.replicate 38 (D.int 1) := rfl
    rw [e6, e38] at hv
    have m1 : S3.mem p1 = some (.lst [.int 1]) := by
      refine fr3.mem p1 _ (Ne.symm ha1) ?_
      rw [DS.put_ne (Ne.symm hp2'.1), DS.put_same]
    have fr3' : Fr a S S3 := (fr1'.trans ((Fr.new hp1).trans (Fr.new hp2))).trans fr3
    have hvd : Vd S3 v ∧ shortD v = false := by
      simp only [List.mem_cons, List.not_mem_nil, or_false] at hv
      rcases hv with rfl | rfl | rfl | rfl | rfl | rfl | rfl | rfl
      · exact ⟨.inl (.lit rfl (by kernel_rfl)), rfl⟩
      · exact ⟨.inl (.lit (pd_lst (lstAt_lst m1) rfl) (by kernel_rfl)), rfl⟩
      · exact ⟨.inl (.lit rfl (by kernel_rfl)), rfl⟩
      · exact ⟨.inl (.lit rfl (by kernel_rfl)), rfl⟩
      · exact ⟨.inl (.lit rfl (by kernel_rfl)), rfl⟩
      · exact ⟨.inl (.lit rfl (by kernel_rfl)), by decide +kernel⟩
      · exact ⟨.inl (.lit rfl (by kernel_rfl)), rfl⟩
      · exact ⟨.inl (.lit rfl (by kernel_rfl)), rfl⟩
    clear hv
    obtain ⟨hvd, hsh⟩ := hvd
    simp (config := {decide := true}) only [wpSs, DL.wpS, wpE, wpX, star_tup, star_ref, wpEs, wpEn, wpO, wpCh, wpB, wpBs, wpBo, wpI, wpT, wpTs, boolOf, startR, CTs.len, CEs.len, CEs.isNil, upto_ff, upto_tt, List.length_cons, List.length_nil, List.map_cons, List.map_nil, List.replicate, List.cons_append, List.nil_append, List.append_nil, List.set_cons_zero, List.set_cons_succ, bind_some, bind_none, getV_nil, getV_0s, getV_0n, getV_s, if_true, if_false, Bool.false_eq_true, ite_self, true_and, and_true, blt_len, blt_abs, blt_max, blt_min, blt_sum, blt_all, blt_any, blt_repr, blt_isi, lst_ref, len_tup, len_str, len_ref, bty_int, bty_bool, bty_str, bty_strs, bty_tup, bty_tupl, bty_lst, bty_lstl, bin_add, bin_sub, bin_mul, bin_div, bin_mod, bin_pow, bin_adds, bin_addt, bin_mult, bin_addl, cmp_lt, cmp_le, cmp_gt, cmp_ge, cmp_eq, cmp_ne, cmp_eqs, cmp_nes, cmp_eqt, cmp_net, cmp_is, cmp_isn, tru_non, tru_bl', tru_int, tru_str, tru_tup, tru_ref, neg_int, ix_tup', ix_str', ix_ref', sl_tup', sl_str', sl_ref', rev_tup', part_int, walk_tup, walk_ref, walk_str, rng_1, rng_2, set_ref, aug_add, aug_sub, rg_1, rg_2, atI_0, atI_1, atI_2, ixN3_0, ixN3_1, ixN3_2, ex_lst, DS.put_same, lstAt_put, snap, List.getElem?_cons_succ, List.getElem?_cons_zero, Option.map_some]
    intro f0 hf0 hf0' L hL0
    have l0 : LeM S3 ((S3.nolam.addLam f0 0 [v]).put L (MO.lst [D.ref f0])) := LeM.put (S' := S3.nolam.addLam f0 0 [v]) (LeM.refl S3) hL0
    have la0 : ((S3.nolam.addLam f0 0 [v]).put L (MO.lst [D.ref f0])).lam f0 = some (0, [v]) := addLam_same
    have li : ((S3.nolam.addLam f0 0 [v]).put L (MO.lst [D.ref f0])).mem L = some (.lst [D.ref f0]) := DS.put_same
    have hL0' : S3.mem L = none := hL0
    generalize (S3.nolam.addLam f0 0 [v]).put L (MO.lst [D.ref f0]) = S4 at l0 la0 li ⊢
    simp (config := {decide := true}) only [wpSs, DL.wpS, wpE, wpX, star_tup, star_ref, wpEs, wpEn, wpO, wpCh, wpB, wpBs, wpBo, wpI, wpT, wpTs, boolOf, startR, CTs.len, CEs.len, CEs.isNil, upto_ff, upto_tt, List.length_cons, List.length_nil, List.map_cons, List.map_nil, List.replicate, List.cons_append, List.nil_append, List.append_nil, List.set_cons_zero, List.set_cons_succ, bind_some, bind_none, getV_nil, getV_0s, getV_0n, getV_s, if_true, if_false, Bool.false_eq_true, ite_self, true_and, and_true, blt_len, blt_abs, blt_max, blt_min, blt_sum, blt_all, blt_any, blt_repr, blt_isi, lst_ref, len_tup, len_str, len_ref, bty_int, bty_bool, bty_str, bty_strs, bty_tup, bty_tupl, bty_lst, bty_lstl, bin_add, bin_sub, bin_mul, bin_div, bin_mod, bin_pow, bin_adds, bin_addt, bin_mult, bin_addl, cmp_lt, cmp_le, cmp_gt, cmp_ge, cmp_eq, cmp_ne, cmp_eqs, cmp_nes, cmp_eqt, cmp_net, cmp_is, cmp_isn, tru_non, tru_bl', tru_int, tru_str, tru_tup, tru_ref, neg_int, ix_tup', ix_str', ix_ref', sl_tup', sl_str', sl_ref', rev_tup', part_int, walk_tup, walk_ref, walk_str, rng_1, rng_2, set_ref, aug_add, aug_sub, rg_1, rg_2, atI_0, atI_1, atI_2, ixN3_0, ixN3_1, ixN3_2, ex_lst, DS.put_same, lstAt_put, met_append li, snap, List.getElem?_cons_succ, List.getElem?_cons_zero, Option.map_some]
    intro f1 hf1 hf1'
    rw [mets_append (S := S4.addLam f1 1 [v]) li]
    refine ⟨by rw [sizeLine_eq]; simp, ?_⟩
    have l1 : LeM S3 ((S4.addLam f1 1 [v]).put L (MO.lst ([D.ref f0] ++ [D.ref f1]))) := LeM.put (S' := S4.addLam f1 1 [v]) l0 hL0'
    have la1 : ((S4.addLam f1 1 [v]).put L (MO.lst ([D.ref f0] ++ [D.ref f1]))).lam f1 = some (1, [v]) := addLam_same
    have la0 : ((S4.addLam f1 1 [v]).put L (MO.lst ([D.ref f0] ++ [D.ref f1]))).lam f0 = some (0, [v]) := addLam_old la0 hf1'
    have li : ((S4.addLam f1 1 [v]).put L (MO.lst ([D.ref f0] ++ [D.ref f1]))).mem L = some (.lst ([D.ref f0] ++ [D.ref f1])) := DS.put_same
    generalize (S4.addLam f1 1 [v]).put L (MO.lst ([D.ref f0] ++ [D.ref f1])) = S5 at l1 la0 la1 li ⊢
    intro f2 hf2 hf2'
    have hvx : Vd (S5.addLam f2 2 []) v := hvd.mono l1
    refine ⟨L, f2, v, "BadRow", _, 2, [], _, _, rfl, lstAt_lst (S := S5.addLam f2 2 []) li, by simp, hvx, hL.x1, hL.s1, fun d hd => ?_, addLam_same, hL.l2, fun S' Q' E' q' => ⟨_, _, rfl, hL.x1, by rw [hL.s3]; exact q'⟩, ?_⟩
    · simp only [List.mem_append, List.mem_cons, List.not_mem_nil, or_false] at hd
      rcases hd with rfl | rfl
      · exact ⟨f0, 0, [v], _, _, rfl, addLam_old la0 hf2', hL.l0, fun Q' E' e => ⟨v, rfl, hvx.tyT, fun is e2 z => by rw [e2, z.ok] at hsh; (cases hsh), fun _ => e⟩⟩
      · exact ⟨f1, 1, [v], _, _, rfl, addLam_old la1 hf2', hL.l1, fun Q' E' e => ⟨v, rfl, v, .non, rfl, hvx.tyT, .inl (Vp.non.up (by decide) (by decide)), fun _ => e, fun is e2 z => by rw [e2, z.ok] at hsh; (cases hsh)⟩⟩
    · refine fgtQ_to (q _ ?_)
      have z : Fr a S (S3.back S) := by rw [fr3'.back]; exact fr3'
      exact Fr.bkm (S1 := S3) z l1
def c30 : FC := fun ds S Q _ => ∃ a, ∃ ns : List Int, ds = [.ref a] ∧ lstAt S a = some (ns.map .int) ∧ ns.length ≤ 63 ∧ ∀ S', Q (.bl true) S'
theorem w30 (G : GS) (Γ : Ga) (g13 : Γ.fn 10 = cPot) (g16 : Γ.fn 13 = cCells) (g28 : Γ.fn 29 = c29) : Keeps G Γ F30 c30 := by
  rintro ds S Q E ⟨a, ns, rfl, la, hl, q⟩
  simp (config := {decide := true}) only [F30, wpSs, DL.wpS, wpE, wpX, star_tup, star_ref, wpEs, wpEn, wpO, wpCh, wpB, wpBs, wpBo, wpI, wpT, wpTs, boolOf, startR, CTs.len, CEs.len, CEs.isNil, upto_ff, upto_tt, List.length_cons, List.length_nil, List.map_cons, List.map_nil, List.replicate, List.cons_append, List.nil_append, List.append_nil, List.set_cons_zero, List.set_cons_succ, bind_some, bind_none, getV_nil, getV_0s, getV_0n, getV_s, if_true, if_false, Bool.false_eq_true, ite_self, true_and, and_true, blt_len, blt_abs, blt_max, blt_min, blt_sum, blt_all, blt_any, blt_repr, blt_isi, lst_ref, len_tup, len_str, len_ref, bty_int, bty_bool, bty_str, bty_strs, bty_tup, bty_tupl, bty_lst, bty_lstl, bin_add, bin_sub, bin_mul, bin_div, bin_mod, bin_pow, bin_adds, bin_addt, bin_mult, bin_addl, cmp_lt, cmp_le, cmp_gt, cmp_ge, cmp_eq, cmp_ne, cmp_eqs, cmp_nes, cmp_eqt, cmp_net, cmp_is, cmp_isn, tru_non, tru_bl', tru_int, tru_str, tru_tup, tru_ref, neg_int, ix_tup', ix_str', ix_ref', sl_tup', sl_str', sl_ref', rev_tup', part_int, walk_tup, walk_ref, walk_str, rng_1, rng_2, set_ref, aug_add, aug_sub, rg_1, rg_2, atI_0, atI_1, atI_2, ixN3_0, ixN3_1, ixN3_2, ex_lst, DS.put_same, lstAt_put, lcQ, wipeR, g13, g16, g28]
  refine ⟨a, _, rfl, la, by rw [List.length_map]; omega, fun p hp => ?_⟩
  rw [List.length_map]
  have hn : (max 1 (min 3 (ns.length : Int))).toNat ≤ 3 := by omega
  generalize (max 1 (min 3 (ns.length : Int))).toNat = n at hn ⊢
  have lp : lstAt (S.put p (MO.lst (rngD 0 1 n))) p = some (rngD 0 1 n) := lstAt_put
  have hle : LeM S (S.put p (MO.lst (rngD 0 1 n))) := (LeM.refl S).put hp
  generalize S.put p (MO.lst (rngD 0 1 n)) = S1 at lp hle ⊢
  simp (config := {decide := true}) only [wpSs, DL.wpS, wpE, wpX, star_tup, star_ref, wpEs, wpEn, wpO, wpCh, wpB, wpBs, wpBo, wpI, wpT, wpTs, boolOf, startR, CTs.len, CEs.len, CEs.isNil, upto_ff, upto_tt, List.length_cons, List.length_nil, List.map_cons, List.map_nil, List.replicate, List.cons_append, List.nil_append, List.append_nil, List.set_cons_zero, List.set_cons_succ, bind_some, bind_none, getV_nil, getV_0s, getV_0n, getV_s, if_true, if_false, Bool.false_eq_true, ite_self, true_and, and_true, blt_len, blt_abs, blt_max, blt_min, blt_sum, blt_all, blt_any, blt_repr, blt_isi, lst_ref, len_tup, len_str, len_ref, bty_int, bty_bool, bty_str, bty_strs, bty_tup, bty_tupl, bty_lst, bty_lstl, bin_add, bin_sub, bin_mul, bin_div, bin_mod, bin_pow, bin_adds, bin_addt, bin_mult, bin_addl, cmp_lt, cmp_le, cmp_gt, cmp_ge, cmp_eq, cmp_ne, cmp_eqs, cmp_nes, cmp_eqt, cmp_net, cmp_is, cmp_isn, tru_non, tru_bl', tru_int, tru_str, tru_tup, tru_ref, neg_int, ix_tup', ix_str', ix_ref', sl_tup', sl_str', sl_ref', rev_tup', part_int, walk_tup, walk_ref, walk_str, rng_1, rng_2, set_ref, aug_add, aug_sub, rg_1, rg_2, atI_0, atI_1, atI_2, ixN3_0, ixN3_1, ixN3_2, ex_lst, DS.put_same, lstAt_put, lp]
  refine ⟨by rw [rngD_len, sizeLine_eq]; omega, lcS_ind (fun i acc S' => acc = List.replicate i (.bl true) ∧ LeM S1 S') (fun i d acc S' hd h => ⟨?_, fun R R0 hR _ => ?_⟩) (fun acc S' h => ⟨?_, ?_⟩) ⟨rfl, LeM.refl _⟩⟩
  · exact h.2.lst lp
  · obtain ⟨rfl, le⟩ := h
    obtain ⟨hi, rfl⟩ := rngD_get hd
    simp (config := {decide := true}) only [wpSs, DL.wpS, wpE, wpX, star_tup, star_ref, wpEs, wpEn, wpO, wpCh, wpB, wpBs, wpBo, wpI, wpT, wpTs, boolOf, startR, CTs.len, CEs.len, CEs.isNil, upto_ff, upto_tt, List.length_cons, List.length_nil, List.map_cons, List.map_nil, List.replicate, List.cons_append, List.nil_append, List.append_nil, List.set_cons_zero, List.set_cons_succ, bind_some, bind_none, getV_nil, getV_0s, getV_0n, getV_s, if_true, if_false, Bool.false_eq_true, ite_self, true_and, and_true, blt_len, blt_abs, blt_max, blt_min, blt_sum, blt_all, blt_any, blt_repr, blt_isi, lst_ref, len_tup, len_str, len_ref, bty_int, bty_bool, bty_str, bty_strs, bty_tup, bty_tupl, bty_lst, bty_lstl, bin_add, bin_sub, bin_mul, bin_div, bin_mod, bin_pow, bin_adds, bin_addt, bin_mult, bin_addl, cmp_lt, cmp_le, cmp_gt, cmp_ge, cmp_eq, cmp_ne, cmp_eqs, cmp_nes, cmp_eqt, cmp_net, cmp_is, cmp_isn, tru_non, tru_bl', tru_int, tru_str, tru_tup, tru_ref, neg_int, ix_tup', ix_str', ix_ref', sl_tup', sl_str', sl_ref', rev_tup', part_int, walk_tup, walk_ref, walk_str, rng_1, rng_2, set_ref, aug_add, aug_sub, rg_1, rg_2, atI_0, atI_1, atI_2, ixN3_0, ixN3_1, ixN3_2, ex_lst, DS.put_same, lstAt_put]
    refine ⟨a, ns, _, rfl, le.lst (hle.lst la), by omega, by omega, by omega, fun p2 S2 hp2 hm _ pt => ?_⟩
    refine ⟨p2, rfl, pt.less (by decide), fun S3 fr3 => hR _ _ ⟨?_, ?_⟩⟩
    · rw [List.replicate_succ']
    · intro x o e
      have e1 := le x o e
      have : x ≠ p2 := fun z => by subst z; rw [hp2] at e1; cases e1
      exact fr3.mem x o this (hm x o e1)
  · exact h.2.lst lp
  · obtain ⟨rfl, le⟩ := h
    intro p4 hp4
    rw [boolsOf_rep, bind_some]
    have e2 : ∀ k : Nat, (List.replicate k true).all id = true := fun k => by
      rw [List.all_eq_true]
      intro b hb
      rw [List.eq_of_mem_replicate hb]; rfl
    rw [e2]
    exact fgtQ_to (q _)
end K02

namespace K02
open PySem PySem.Spec PyProof.Rows L2 DL LK
def g0 (K : PySem.W.Frag) : GS := XD.gs K LL
def ga0 : Ga := gaOf XD [] (fun _ => none)
def ls0 (K : PySem.W.Frag) : List (LmCk × Nat × FC) := [(Lm0, 1, c6), (Lm1, 1, CLsh), (Lm2, 1, (CLis (g0 K) ga0 "BadRow"))]
def lcs (K : PySem.W.Frag) : Nat → Option (Nat × FC) := fun j => ((ls0 K)[j]?).map (·.2)
theorem tT : tabTB XD T = true := by kernel_rfl
theorem ok0 : FnOK XD LL T 0 F0 := ⟨F0_ck, rfl, rfl, fun h => absurd h Bool.false_ne_true⟩
theorem ok1 : FnOK XD LL T 1 F1 := ⟨F1_ck, rfl, rfl, fun h => absurd h Bool.false_ne_true⟩
theorem ok2 : FnOK XD LL T 2 F2 := ⟨F2_ck, rfl, rfl, fun h => absurd h Bool.false_ne_true⟩
theorem ok3 : FnOK XD LL T 3 F3 := ⟨F3_ck, rfl, rfl, fun h => absurd h Bool.false_ne_true⟩
theorem ok4 : FnOK XD LL T 4 F4 := ⟨F4_ck, rfl, rfl, fun h => absurd h Bool.false_ne_true⟩
theorem ok5 : FnOK XD LL T 5 F5 := ⟨F5_ck, rfl, rfl, fun h => absurd h Bool.false_ne_true⟩
theorem ok6 : FnOK XD LL T 6 F6 := ⟨F6_ck, rfl, rfl, fun h => absurd h Bool.false_ne_true⟩
theorem ok7 : FnOK XD LL T 7 F7 := ⟨F7_ck, rfl, rfl, fun h => absurd h Bool.false_ne_true⟩
theorem ok8 : FnOK XD LL T 8 F8 := ⟨F8_ck, rfl, rfl, fun h => absurd h Bool.false_ne_true⟩
theorem ok9 : FnOK XD LL T 9 F9 := ⟨F9_ck, rfl, rfl, fun h => absurd h Bool.false_ne_true⟩
theorem ok10 : FnOK XD LL T 10 F10 := ⟨F10_ck, rfl, rfl, fun h => absurd h Bool.false_ne_true⟩
theorem ok11 : FnOK XD LL T 11 F11 := ⟨F11_ck, rfl, rfl, fun h => absurd h Bool.false_ne_true⟩
theorem ok12 : FnOK XD LL T 12 F12 := ⟨F12_ck, rfl, rfl, fun h => absurd h Bool.false_ne_true⟩
theorem ok13 : FnOK XD LL T 13 F13 := ⟨F13_ck, rfl, rfl, fun h => absurd h Bool.false_ne_true⟩
theorem ok14 : FnOK XD LL T 14 F14 := ⟨F14_ck, rfl, rfl, fun h => absurd h Bool.false_ne_true⟩
theorem ok15 : FnOK XD LL T 15 F15 := ⟨F15_ck, rfl, rfl, fun h => absurd h Bool.false_ne_true⟩
theorem ok16 : FnOK XD LL T 16 F16 := ⟨F16_ck, rfl, rfl, fun h => absurd h Bool.false_ne_true⟩
theorem ok17 : FnOK XD LL T 17 F17 := ⟨F17_ck, rfl, rfl, fun h => absurd h Bool.false_ne_true⟩
theorem ok18 : FnOK XD LL T 18 F18 := ⟨F18_ck, rfl, rfl, fun h => absurd h Bool.false_ne_true⟩
theorem ok19 : FnOK XD LL T 19 F19 := ⟨F19_ck, rfl, rfl, fun h => absurd h Bool.false_ne_true⟩
theorem ok20 : FnOK XD LL T 20 F20 := ⟨F20_ck, rfl, rfl, fun h => absurd h Bool.false_ne_true⟩
theorem ok21 : FnOK XD LL T 21 F21 := ⟨F21_ck, rfl, rfl, fun h => absurd h Bool.false_ne_true⟩
theorem ok22 : FnOK XD LL T 22 F22 := ⟨F22_ck, rfl, rfl, fun h => absurd h Bool.false_ne_true⟩
theorem ok23 : FnOK XD LL T 23 F23 := ⟨F23_ck, rfl, rfl, fun h => absurd h Bool.false_ne_true⟩
theorem ok24 : FnOK XD LL T 24 F24 := ⟨F24_ck, rfl, rfl, fun h => absurd h Bool.false_ne_true⟩
theorem ok25 : FnOK XD LL T 25 F25 := ⟨F25_ck, rfl, rfl, fun h => absurd h Bool.false_ne_true⟩
theorem ok26 : FnOK XD LL T 26 F26 := ⟨F26_ck, rfl, rfl, fun h => absurd h Bool.false_ne_true⟩
theorem ok27 : FnOK XD LL T 27 F27 := ⟨F27_ck, rfl, rfl, fun h => absurd h Bool.false_ne_true⟩
theorem ok28 : FnOK XD LL T 28 F28 := ⟨F28_ck, rfl, rfl, fun h => absurd h Bool.false_ne_true⟩
theorem nm29 : (XD.fns[29]?).map (fun d => XD.tabs.contains d.name) = some true := by kernel_rfl
theorem ok29 : FnOK XD LL T 29 F29 := ⟨F29_ck, rfl, rfl, fun _ d h => by
  have e := nm29
  rw [h] at e
  exact List.contains_iff_mem.mp (Option.some.inj e)⟩
theorem ok30 : FnOK XD LL T 30 F30 := ⟨F30_ck, rfl, rfl, fun h => absurd h Bool.false_ne_true⟩
theorem ln0 : (LL[0]?).map (fun l => l.ps.length + l.caps.length) = some 1 := by kernel_rfl
theorem lok0 : LmOK LL T 0 1 Lm0 := ⟨Lm0_ck, fun ld h => by
  have e := ln0
  rw [h] at e
  exact (Option.some.inj e).symm, rfl, rfl⟩
theorem ln1 : (LL[1]?).map (fun l => l.ps.length + l.caps.length) = some 1 := by kernel_rfl
theorem lok1 : LmOK LL T 1 1 Lm1 := ⟨Lm1_ck, fun ld h => by
  have e := ln1
  rw [h] at e
  exact (Option.some.inj e).symm, rfl, rfl⟩
theorem ln2 : (LL[2]?).map (fun l => l.ps.length + l.caps.length) = some 1 := by kernel_rfl
theorem lok2 : LmOK LL T 2 1 Lm2 := ⟨Lm2_ck, fun ld h => by
  have e := ln2
  rw [h] at e
  exact (Option.some.inj e).symm, rfl, rfl⟩
theorem lcOk (K : PySem.W.Frag) (cs : List FC) : LcOk (XD.gs K LL) (gaOf XD cs (lcs K)) where
  l0 := rfl
  l1 := rfl
  l2 := rfl
  x1 := List.contains_iff_mem.mp (by kernel_rfl)
  s1 := by kernel_rfl
  s3 := by kernel_rfl

theorem fin (w : World) (mg : Str → Option Value) (K K2 : PySem.W.Frag) (base : Heap) (b : Bas XD K K2 PP mg base) (dt : DefT) (hd : XD.fns[30]? = some dt) : FnD (XD.gs K LL) PP w K mg base 33 (He.ga K dt.name) (fdAt K dt.name) (psOf dt) c30 := by
  have hT := tT
  have s0 : Stg XD K LL PP w mg base 0 [CF, CF, CF, CF, CF, CF, CF, CF, CF, CF, CF, CF, CF, CF, CF, CF, CF, CF, CF, CF, CF, CF, CF, CF, CF, CF, CF, CF, CF, CF, CF] (fun _ => none) := Stg.pad 31
  have s1 : Stg XD K LL PP w mg base 1 [cIsWhole, CF, CF, CF, CF, CF, CF, CF, CF, CF, CF, CF, CF, CF, CF, CF, CF, CF, CF, CF, CF, CF, CF, CF, CF, CF, CF, CF, CF, CF, CF] (fun _ => none) := s0.set b hT 0 F0 cIsWhole (Nat.lt_of_lt_of_eq (show 0 < 31 by decide) rfl) ok0 (by rintro ds S Q E ⟨_, rfl, _⟩; rfl) (by apply kIsWhole <;> rfl)
  have s2 : Stg XD K LL PP w mg base 2 [cIsWhole, cAreWholes, CF, CF, CF, CF, CF, CF, CF, CF, CF, CF, CF, CF, CF, CF, CF, CF, CF, CF, CF, CF, CF, CF, CF, CF, CF, CF, CF, CF, CF] (fun _ => none) := s1.set b hT 1 F1 cAreWholes (Nat.lt_of_lt_of_eq (show 1 < 31 by decide) rfl) ok1 (by rintro ds S Q E ⟨_, rfl, _⟩; rfl) (by apply kAreWholes <;> rfl)
  have s3 : Stg XD K LL PP w mg base 3 [cIsWhole, cAreWholes, cProd, CF, CF, CF, CF, CF, CF, CF, CF, CF, CF, CF, CF, CF, CF, CF, CF, CF, CF, CF, CF, CF, CF, CF, CF, CF, CF, CF, CF] (fun _ => none) := s2.set b hT 2 F2 cProd (Nat.lt_of_lt_of_eq (show 2 < 31 by decide) rfl) ok2 (by rintro ds S Q E ⟨_, _, _, _, rfl, _⟩; rfl) (by apply kProd <;> rfl)
  have s4 : Stg XD K LL PP w mg base 4 [cIsWhole, cAreWholes, cProd, cTurn, CF, CF, CF, CF, CF, CF, CF, CF, CF, CF, CF, CF, CF, CF, CF, CF, CF, CF, CF, CF, CF, CF, CF, CF, CF, CF, CF] (fun _ => none) := s3.set b hT 3 F3 cTurn (Nat.lt_of_lt_of_eq (show 3 < 31 by decide) rfl) ok3 (by rintro ds S Q E ⟨_, rfl, _⟩; rfl) (by apply kTurn <;> rfl)
  have s5 : Stg XD K LL PP w mg base 5 [cIsWhole, cAreWholes, cProd, cTurn, cTurnsG, CF, CF, CF, CF, CF, CF, CF, CF, CF, CF, CF, CF, CF, CF, CF, CF, CF, CF, CF, CF, CF, CF, CF, CF, CF, CF] (fun _ => none) := s4.set b hT 4 F4 cTurnsG (Nat.lt_of_lt_of_eq (show 4 < 31 by decide) rfl) ok4 (by rintro ds S Q E ⟨_, _, rfl, _⟩; rfl) (by apply kTurnsG <;> rfl)
  have s6 : Stg XD K LL PP w mg base 6 [cIsWhole, cAreWholes, cProd, cTurn, cTurnsG, cIsRow, CF, CF, CF, CF, CF, CF, CF, CF, CF, CF, CF, CF, CF, CF, CF, CF, CF, CF, CF, CF, CF, CF, CF, CF, CF] (fun _ => none) := s5.set b hT 5 F5 cIsRow (Nat.lt_of_lt_of_eq (show 5 < 31 by decide) rfl) ok5 (by rintro ds S Q E ⟨_, rfl, _⟩; rfl) (by apply kIsRow <;> rfl)
  have s7 : Stg XD K LL PP w mg base 7 [cIsWhole, cAreWholes, cProd, cTurn, cTurnsG, cIsRow, CF, c7, CF, CF, CF, CF, CF, CF, CF, CF, CF, CF, CF, CF, CF, CF, CF, CF, CF, CF, CF, CF, CF, CF, CF] (fun _ => none) := s6.set b hT 7 F7 c7 (Nat.lt_of_lt_of_eq (show 7 < 31 by decide) rfl) ok7 (by rintro ds S Q E ⟨_, rfl, _⟩; rfl) (by apply w7 <;> rfl)
  have s8 : Stg XD K LL PP w mg base 8 [cIsWhole, cAreWholes, cProd, cTurn, cTurnsG, cIsRow, CF, c7, c8, CF, CF, CF, CF, CF, CF, CF, CF, CF, CF, CF, CF, CF, CF, CF, CF, CF, CF, CF, CF, CF, CF] (fun _ => none) := s7.set b hT 8 F8 c8 (Nat.lt_of_lt_of_eq (show 8 < 31 by decide) rfl) ok8 (by rintro ds S Q E ⟨_, rfl, _⟩; rfl) (by apply w8 <;> rfl)
  have s9 : Stg XD K LL PP w mg base 9 [cIsWhole, cAreWholes, cProd, cTurn, cTurnsG, cIsRow, c6, c7, c8, CF, CF, CF, CF, CF, CF, CF, CF, CF, CF, CF, CF, CF, CF, CF, CF, CF, CF, CF, CF, CF, CF] (fun _ => none) := s8.set b hT 6 F6 c6 (Nat.lt_of_lt_of_eq (show 6 < 31 by decide) rfl) ok6 (by rintro ds S Q E ⟨_, rfl, _⟩; rfl) (by apply w6 <;> rfl)
  have s10 : Stg XD K LL PP w mg base 10 [cIsWhole, cAreWholes, cProd, cTurn, cTurnsG, cIsRow, c6, c7, c8, c9, CF, CF, CF, CF, CF, CF, CF, CF, CF, CF, CF, CF, CF, CF, CF, CF, CF, CF, CF, CF, CF] (fun _ => none) := s9.set b hT 9 F9 c9 (Nat.lt_of_lt_of_eq (show 9 < 31 by decide) rfl) ok9 (by rintro ds S Q E ⟨_, _, rfl, _⟩; rfl) (by apply w9 <;> rfl)
  have s11 : Stg XD K LL PP w mg base 11 [cIsWhole, cAreWholes, cProd, cTurn, cTurnsG, cIsRow, c6, c7, c8, c9, CF, CF, CF, CF, CF, CF, CF, CF, CF, CF, CF, CF, CF, CF, CF, CF, CF, CF, CF, CF, CF] (lcs K) := s10.lams b hT (ls0 K) (fun j F n C e => by
    match j, e with
    | 0, e =>
      have e : some (Lm0, 1, c6) = some (F, n, C) := e
      cases e; exact ⟨lok0, (by rintro ds S Q E ⟨_, rfl, _⟩; rfl), by apply l0 <;> rfl⟩
    | 1, e =>
      have e : some (Lm1, 1, CLsh) = some (F, n, C) := e
      cases e; exact ⟨lok1, (by rintro ds S Q E ⟨_, rfl, _⟩; rfl), by apply l1 <;> rfl⟩
    | 2, e =>
      have e : some (Lm2, 1, (CLis (g0 K) ga0 "BadRow")) = some (F, n, C) := e
      cases e; exact ⟨lok2, (by rintro ds S Q E ⟨_, _, rfl, _⟩; rfl), by apply l2 <;> rfl⟩
    | j + 3, e => cases e)
  have s12 : Stg XD K LL PP w mg base 12 [cIsWhole, cAreWholes, cProd, cTurn, cTurnsG, cIsRow, c6, c7, c8, c9, cPot, CF, CF, CF, CF, CF, CF, CF, CF, CF, CF, CF, CF, CF, CF, CF, CF, CF, CF, CF, CF] (lcs K) := s11.set b hT 10 F10 cPot (Nat.lt_of_lt_of_eq (show 10 < 31 by decide) rfl) ok10 (by rintro ds S Q E ⟨_, _, _, rfl, _⟩; rfl) (by apply kPot <;> rfl)
  have s13 : Stg XD K LL PP w mg base 13 [cIsWhole, cAreWholes, cProd, cTurn, cTurnsG, cIsRow, c6, c7, c8, c9, cPot, cTake, CF, CF, CF, CF, CF, CF, CF, CF, CF, CF, CF, CF, CF, CF, CF, CF, CF, CF, CF] (lcs K) := s12.set b hT 11 F11 cTake (Nat.lt_of_lt_of_eq (show 11 < 31 by decide) rfl) ok11 (by rintro ds S Q E ⟨_, _, _, rfl, _⟩; rfl) (by apply kTake <;> rfl)
  have s14 : Stg XD K LL PP w mg base 14 [cIsWhole, cAreWholes, cProd, cTurn, cTurnsG, cIsRow, c6, c7, c8, c9, cPot, cTake, cOf, CF, CF, CF, CF, CF, CF, CF, CF, CF, CF, CF, CF, CF, CF, CF, CF, CF, CF] (lcs K) := s13.set b hT 12 F12 cOf (Nat.lt_of_lt_of_eq (show 12 < 31 by decide) rfl) ok12 (by rintro ds S Q E ⟨_, _, _, _, rfl, _⟩; rfl) (by apply LK.kOf <;> rfl)
  have s15 : Stg XD K LL PP w mg base 15 [cIsWhole, cAreWholes, cProd, cTurn, cTurnsG, cIsRow, c6, c7, c8, c9, cPot, cTake, cOf, cCells, CF, CF, CF, CF, CF, CF, CF, CF, CF, CF, CF, CF, CF, CF, CF, CF, CF] (lcs K) := s14.set b hT 13 F13 cCells (Nat.lt_of_lt_of_eq (show 13 < 31 by decide) rfl) ok13 (by rintro ds S Q E ⟨_, _, rfl, _⟩; rfl) (by apply kCells <;> rfl)
  have s16 : Stg XD K LL PP w mg base 16 [cIsWhole, cAreWholes, cProd, cTurn, cTurnsG, cIsRow, c6, c7, c8, c9, cPot, cTake, cOf, cCells, (cHeard (XD.gs K LL) (gaOf XD [] (lcs K))), CF, CF, CF, CF, CF, CF, CF, CF, CF, CF, CF, CF, CF, CF, CF, CF] (lcs K) := s15.set b hT 14 F14 (cHeard (XD.gs K LL) (gaOf XD [] (lcs K))) (Nat.lt_of_lt_of_eq (show 14 < 31 by decide) rfl) ok14 (by rintro ds S Q E ⟨_, _, _, _, _, rfl, _⟩; rfl) (by apply kHeard <;> rfl)
  have s17 : Stg XD K LL PP w mg base 17 [cIsWhole, cAreWholes, cProd, cTurn, cTurnsG, cIsRow, c6, c7, c8, c9, cPot, cTake, cOf, cCells, (cHeard (XD.gs K LL) (gaOf XD [] (lcs K))), cOdd, CF, CF, CF, CF, CF, CF, CF, CF, CF, CF, CF, CF, CF, CF, CF] (lcs K) := s16.set b hT 15 F15 cOdd (Nat.lt_of_lt_of_eq (show 15 < 31 by decide) rfl) ok15 (by rintro ds S Q E ⟨_, _, rfl, _⟩; rfl) (by apply kOdd <;> rfl)
  have s18 : Stg XD K LL PP w mg base 18 [cIsWhole, cAreWholes, cProd, cTurn, cTurnsG, cIsRow, c6, c7, c8, c9, cPot, cTake, cOf, cCells, (cHeard (XD.gs K LL) (gaOf XD [] (lcs K))), cOdd, (CB 0), CF, CF, CF, CF, CF, CF, CF, CF, CF, CF, CF, CF, CF, CF] (lcs K) := s17.set b hT 16 F16 (CB 0) (Nat.lt_of_lt_of_eq (show 16 < 31 by decide) rfl) ok16 (by rintro ds S Q E ⟨_, _, _, _, rfl, _⟩; rfl) (by apply kBent_0 <;> rfl)
  have s19 : Stg XD K LL PP w mg base 19 [cIsWhole, cAreWholes, cProd, cTurn, cTurnsG, cIsRow, c6, c7, c8, c9, cPot, cTake, cOf, cCells, (cHeard (XD.gs K LL) (gaOf XD [] (lcs K))), cOdd, cBent, CF, CF, CF, CF, CF, CF, CF, CF, CF, CF, CF, CF, CF, CF] (lcs K) := s18.set b hT 16 F16 cBent (Nat.lt_of_lt_of_eq (show 16 < 31 by decide) rfl) ok16 (by rintro ds S Q E ⟨_, _, _, rfl, _⟩; rfl) (by apply kBent <;> rfl)
  have s20 : Stg XD K LL PP w mg base 20 [cIsWhole, cAreWholes, cProd, cTurn, cTurnsG, cIsRow, c6, c7, c8, c9, cPot, cTake, cOf, cCells, (cHeard (XD.gs K LL) (gaOf XD [] (lcs K))), cOdd, cBent, cIsBool, CF, CF, CF, CF, CF, CF, CF, CF, CF, CF, CF, CF, CF] (lcs K) := s19.set b hT 17 F17 cIsBool (Nat.lt_of_lt_of_eq (show 17 < 31 by decide) rfl) ok17 (by rintro ds S Q E ⟨_, _, rfl, _⟩; rfl) (by apply kIsBool <;> rfl)
  have s21 : Stg XD K LL PP w mg base 21 [cIsWhole, cAreWholes, cProd, cTurn, cTurnsG, cIsRow, c6, c7, c8, c9, cPot, cTake, cOf, cCells, (cHeard (XD.gs K LL) (gaOf XD [] (lcs K))), cOdd, cBent, cIsBool, cProd, CF, CF, CF, CF, CF, CF, CF, CF, CF, CF, CF, CF] (lcs K) := s20.set b hT 18 F18 cProd (Nat.lt_of_lt_of_eq (show 18 < 31 by decide) rfl) ok18 (by rintro ds S Q E ⟨_, _, _, _, rfl, _⟩; rfl) (by apply (kTimesC false) <;> rfl)
  have s22 : Stg XD K LL PP w mg base 22 [cIsWhole, cAreWholes, cProd, cTurn, cTurnsG, cIsRow, c6, c7, c8, c9, cPot, cTake, cOf, cCells, (cHeard (XD.gs K LL) (gaOf XD [] (lcs K))), cOdd, cBent, cIsBool, cProd, cTurnsG, CF, CF, CF, CF, CF, CF, CF, CF, CF, CF, CF] (lcs K) := s21.set b hT 19 F19 cTurnsG (Nat.lt_of_lt_of_eq (show 19 < 31 by decide) rfl) ok19 (by rintro ds S Q E ⟨_, _, rfl, _⟩; rfl) (by apply kLTurnsG <;> rfl)
  have s23 : Stg XD K LL PP w mg base 23 [cIsWhole, cAreWholes, cProd, cTurn, cTurnsG, cIsRow, c6, c7, c8, c9, cPot, cTake, cOf, cCells, (cHeard (XD.gs K LL) (gaOf XD [] (lcs K))), cOdd, cBent, cIsBool, cProd, cTurnsG, cIsWhole, CF, CF, CF, CF, CF, CF, CF, CF, CF, CF] (lcs K) := s22.set b hT 20 F20 cIsWhole (Nat.lt_of_lt_of_eq (show 20 < 31 by decide) rfl) ok20 (by rintro ds S Q E ⟨_, rfl, _⟩; rfl) (by apply kIsWhole <;> rfl)
  have s24 : Stg XD K LL PP w mg base 24 [cIsWhole, cAreWholes, cProd, cTurn, cTurnsG, cIsRow, c6, c7, c8, c9, cPot, cTake, cOf, cCells, (cHeard (XD.gs K LL) (gaOf XD [] (lcs K))), cOdd, cBent, cIsBool, cProd, cTurnsG, cIsWhole, cCut, CF, CF, CF, CF, CF, CF, CF, CF, CF] (lcs K) := s23.set b hT 21 F21 cCut (Nat.lt_of_lt_of_eq (show 21 < 31 by decide) rfl) ok21 (by rintro ds S Q E ⟨_, _, _, rfl, _⟩; rfl) (by apply w21 <;> rfl)
  have s25 : Stg XD K LL PP w mg base 25 [cIsWhole, cAreWholes, cProd, cTurn, cTurnsG, cIsRow, c6, c7, c8, c9, cPot, cTake, cOf, cCells, (cHeard (XD.gs K LL) (gaOf XD [] (lcs K))), cOdd, cBent, cIsBool, cProd, cTurnsG, cIsWhole, cCut, c22, CF, CF, CF, CF, CF, CF, CF, CF] (lcs K) := s24.set b hT 22 F22 c22 (Nat.lt_of_lt_of_eq (show 22 < 31 by decide) rfl) ok22 (by rintro ds S Q E ⟨_, _, rfl, _⟩; rfl) (by apply w22 <;> rfl)
  have s26 : Stg XD K LL PP w mg base 26 [cIsWhole, cAreWholes, cProd, cTurn, cTurnsG, cIsRow, c6, c7, c8, c9, cPot, cTake, cOf, cCells, (cHeard (XD.gs K LL) (gaOf XD [] (lcs K))), cOdd, cBent, cIsBool, cProd, cTurnsG, cIsWhole, cCut, c22, (cRefused (gaOf XD [] (lcs K)) (XD.gs K LL)), CF, CF, CF, CF, CF, CF, CF] (lcs K) := s25.set b hT 23 F23 (cRefused (gaOf XD [] (lcs K)) (XD.gs K LL)) (Nat.lt_of_lt_of_eq (show 23 < 31 by decide) rfl) ok23 (by rintro ds S Q E ⟨_, _, _, _, _, _, _, _, _, rfl, _⟩; rfl) (by apply kRefused2 <;> rfl)
  have s27 : Stg XD K LL PP w mg base 27 [cIsWhole, cAreWholes, cProd, cTurn, cTurnsG, cIsRow, c6, c7, c8, c9, cPot, cTake, cOf, cCells, (cHeard (XD.gs K LL) (gaOf XD [] (lcs K))), cOdd, cBent, cIsBool, cProd, cTurnsG, cIsWhole, cCut, c22, (cRefused (gaOf XD [] (lcs K)) (XD.gs K LL)), c24, CF, CF, CF, CF, CF, CF] (lcs K) := s26.set b hT 24 F24 c24 (Nat.lt_of_lt_of_eq (show 24 < 31 by decide) rfl) ok24 (by rintro ds S Q E ⟨_, _, rfl, _⟩; rfl) (by apply w24 <;> rfl)
  have s28 : Stg XD K LL PP w mg base 28 [cIsWhole, cAreWholes, cProd, cTurn, cTurnsG, cIsRow, c6, c7, c8, c9, cPot, cTake, cOf, cCells, (cHeard (XD.gs K LL) (gaOf XD [] (lcs K))), cOdd, cBent, cIsBool, cProd, cTurnsG, cIsWhole, cCut, c22, (cRefused (gaOf XD [] (lcs K)) (XD.gs K LL)), c24, c25, CF, CF, CF, CF, CF] (lcs K) := s27.set b hT 25 F25 c25 (Nat.lt_of_lt_of_eq (show 25 < 31 by decide) rfl) ok25 (by rintro ds S Q E ⟨_, _, rfl, _⟩; rfl) (by apply w25 <;> rfl)
  have s29 : Stg XD K LL PP w mg base 29 [cIsWhole, cAreWholes, cProd, cTurn, cTurnsG, cIsRow, c6, c7, c8, c9, cPot, cTake, cOf, cCells, (cHeard (XD.gs K LL) (gaOf XD [] (lcs K))), cOdd, cBent, cIsBool, cProd, cTurnsG, cIsWhole, cCut, c22, (cRefused (gaOf XD [] (lcs K)) (XD.gs K LL)), c24, c25, c26, CF, CF, CF, CF] (lcs K) := s28.set b hT 26 F26 c26 (Nat.lt_of_lt_of_eq (show 26 < 31 by decide) rfl) ok26 (by rintro ds S Q E ⟨_, rfl, _⟩; rfl) (by apply w26 <;> rfl)
  have s30 : Stg XD K LL PP w mg base 30 [cIsWhole, cAreWholes, cProd, cTurn, cTurnsG, cIsRow, c6, c7, c8, c9, cPot, cTake, cOf, cCells, (cHeard (XD.gs K LL) (gaOf XD [] (lcs K))), cOdd, cBent, cIsBool, cProd, cTurnsG, cIsWhole, cCut, c22, (cRefused (gaOf XD [] (lcs K)) (XD.gs K LL)), c24, c25, c26, c27, CF, CF, CF] (lcs K) := s29.set b hT 27 F27 c27 (Nat.lt_of_lt_of_eq (show 27 < 31 by decide) rfl) ok27 (by rintro ds S Q E ⟨_, _, _, rfl, _⟩; rfl) (by apply w27 <;> rfl)
  have s31 : Stg XD K LL PP w mg base 31 [cIsWhole, cAreWholes, cProd, cTurn, cTurnsG, cIsRow, c6, c7, c8, c9, cPot, cTake, cOf, cCells, (cHeard (XD.gs K LL) (gaOf XD [] (lcs K))), cOdd, cBent, cIsBool, cProd, cTurnsG, cIsWhole, cCut, c22, (cRefused (gaOf XD [] (lcs K)) (XD.gs K LL)), c24, c25, c26, c27, c28, CF, CF] (lcs K) := s30.set b hT 28 F28 c28 (Nat.lt_of_lt_of_eq (show 28 < 31 by decide) rfl) ok28 (by rintro ds S Q E ⟨_, _, rfl, _⟩; rfl) (by apply w28 <;> rfl)
  have s32 : Stg XD K LL PP w mg base 32 [cIsWhole, cAreWholes, cProd, cTurn, cTurnsG, cIsRow, c6, c7, c8, c9, cPot, cTake, cOf, cCells, (cHeard (XD.gs K LL) (gaOf XD [] (lcs K))), cOdd, cBent, cIsBool, cProd, cTurnsG, cIsWhole, cCut, c22, (cRefused (gaOf XD [] (lcs K)) (XD.gs K LL)), c24, c25, c26, c27, c28, c29, CF] (lcs K) := s31.set b hT 29 F29 c29 (Nat.lt_of_lt_of_eq (show 29 < 31 by decide) rfl) ok29 (by rintro ds S Q E ⟨_, rfl, _⟩; rfl) (by apply w29 <;> first | rfl | exact lcOk K _)
  have s33 : Stg XD K LL PP w mg base 33 [cIsWhole, cAreWholes, cProd, cTurn, cTurnsG, cIsRow, c6, c7, c8, c9, cPot, cTake, cOf, cCells, (cHeard (XD.gs K LL) (gaOf XD [] (lcs K))), cOdd, cBent, cIsBool, cProd, cTurnsG, cIsWhole, cCut, c22, (cRefused (gaOf XD [] (lcs K)) (XD.gs K LL)), c24, c25, c26, c27, c28, c29, c30] (lcs K) := s32.set b hT 30 F30 c30 (Nat.lt_of_lt_of_eq (show 30 < 31 by decide) rfl) ok30 (by rintro ds S Q E ⟨_, _, rfl, _⟩; rfl) (by apply w30 <;> rfl)
  exact s33.fn 30 dt hd
end K02

namespace K02
open PySem DL
def lawD : DefRec := HandSHeadRun.topDef PP 42
theorem dtE : (XD.fns[30]?).map (fun d => (decide (d.name = lawD.name), decide (psOf d = [("script" : Str)]), plainA d.args)) = some (true, true, true) := by kernel_rfl
end K02
open PySem PySem.W PySem.Calls PyProof.Rows DL in
theorem PySem.Challenge.cw_eachdiamondone_k02_whole_three_more_numb_holds : PySem.Challenge.rw_eachdiamondone_k02_whole_three_more_numb.Holds := by
  w_on; o_law
  refine HandSHeadRun.head_any (r := OpenLaw.row PySem.Challenge.rw_eachdiamondone_k02_whole_three_more_numb) (q := view (OpenLaw.row PySem.Challenge.rw_eachdiamondone_k02_whole_three_more_numb).prog [42]) (H := K02.XD.hook) (ob := fun s => K02.XD.obs (HandSHeadRun.getT s)) (M := 2000) (loose := K02.loose) (d := HandSHeadRun.topDef (OpenLaw.row PySem.Challenge.rw_eachdiamondone_k02_whole_three_more_numb).prog 42) (kwd := []) K02.XD.obs_eq
    (by kernel_rfl) (fun s => by kernel_rfl) K02.run (by kernel_rfl) (by kernel_rfl) (by kernel_rfl) (by rfl) (by first | assumption | decide +kernel) (by decide +kernel) ⟨rfl, rfl, rfl, rfl, rfl, by decide +kernel⟩ ?hw ?hc
  case hw => w_witness2
  case hc =>
    have e := K02.dtE
    cases q : K02.XD.fns[30]? with
    | none => rw [q] at e; cases e
    | some dt =>
      rw [q] at e
      simp only [Option.map_some, Option.some.injEq, Prod.mk.injEq, decide_eq_true_eq] at e
      refine law_end (X := K02.XD) (l := PySem.Challenge.rw_eachdiamondone_k02_whole_three_more_numb) (n := 63) (k := 33) (j := 30) (C := K02.c30) (L := K02.LL) (dt := dt) rfl (by rw [sizeLine_eq]; decide) (by kernel_rfl) ⟨⟨rfl, by decide, by decide⟩, rfl⟩ q e.1 e.2.1 e.2.2 (by kernel_rfl) (by kernel_rfl) (by kernel_rfl) (by rfl) (fun a ns S hl _ h => ⟨a, ns, rfl, h, hl, fun _ => rfl⟩) (fun w mg K K2 base b => K02.fin w mg K K2 base b dt q)
