import PyProof.Rows.All
import Wide.All
import OpenK.AllK
import Wide.FinOn
import HandS.ForMost
import HandS.ForExc
import HandS.Wide
import HandS.Flow
import HandS.Defaults
import HandS.Iter
import PyProof.ReprRoads
import HandS.Nested
import HandS.IsInst
import HandS.RaiseMore
import PyProof.ReprLen
import HandS.ExcIs
import PyProof.EqKinds
import HandS.Style
import HandS.SetFor
import HandS.WideBits
import HandS.SortInts
import HandS.TryOnly
import KE.KExcIs
import HandS.ExcField
import KE.KRevSl
import HandS.Small
import HandS.Conv
import HandS.TupAny
import KE.GoesEnum
import HandS.Strs
import HandS.Zip
import HandS.ListItems
import KE.KDictZip
import HandS.More
import PyProof.Rows.StrMeet
import HandS.Deep
import HandS.DictComp
import KE.KEqNest
import HandS.ListEq
import PyProof.NeKinds
import KE.DataMinMax
import KE.KUnpackStar
import HandS.ExcValue
import HandS.Text
import HandS.ExcInit
import HandS.SetBool
import KE.GoesZip
import HandS.FStr
import HandS.TupMul
import PyProof.Rows.FactsExc_KeyError
import PyProof.ExcBaseAll.LookupError
import HandS.Dict
import HandS.SortRule
import PyProof.Rows.FactsExc_LookupError
import PyProof.Rows.FactsExc_Exception
import PyProof.ExcBaseAll.Exception
import HandS.ExcInitHot
import HandS.SuiteRaise
import PyProof.EnumMake
import PyProof.EnumStmt
import KE.GoesEnumKw
import KE.GoesMore
import PySem.Challenge.RW_boundgate_k27_contracts_looked_at
set_option Elab.async false
set_option autoImplicit false
set_option linter.all false
set_option maxRecDepth 100000
set_option maxHeartbeats 4000000
namespace DL
open PySem L2

/-- a name of the module that stands for a class, or a def -/
def ClsK (K : PySem.W.Frag) (n : Str) (C : Addr) : Prop := PySem.W.nsIn K mainGlobals n = some (some (.ref C))
/-- the code object of the module's def x has its table at P -/
def TabK (K : PySem.W.Frag) (x : Str) (P : Addr) : Prop := ∃ (f : Addr) (oc : Value) (od : Option Addr) (fd : FuncData) (osl : Array (Option Value)) (c : Addr), ClsK K x f ∧ K.lookup f = some ⟨oc, od, .func fd, osl⟩ ∧ fd.code = .ref c ∧ PySem.W.codeHdIn K c P = true
theorem codeHdIn_inj {K : PySem.W.Frag} {c P P' : Addr} (h : PySem.W.codeHdIn K c P = true) (h' : PySem.W.codeHdIn K c P' = true) : P = P' := by
  unfold PySem.W.codeHdIn at h
  split at h
  · rename_i od vs sl hk
    unfold PySem.W.codeHdIn at h'
    rw [hk] at h'
    simp only [Bool.and_eq_true] at h h'
    obtain ⟨⟨⟨⟨⟨e1, _⟩, _⟩, _⟩, _⟩, _⟩ := h
    obtain ⟨⟨⟨⟨⟨g1, _⟩, _⟩, _⟩, _⟩, _⟩ := h'
    split at e1
    · rename_i h1
      rw [h1] at g1
      exact (beq_iff_eq.mp e1).symm.trans (beq_iff_eq.mp g1)
    · cases e1
  · cases h
theorem TabK.inj {K : PySem.W.Frag} {x : Str} {P P' : Addr} (h : TabK K x P) (h' : TabK K x P') : P = P' := by
  obtain ⟨f, oc, od, fd, osl, c, a1, a2, a3, a4⟩ := h
  obtain ⟨f', oc', od', fd', osl', c', b1, b2, b3, b4⟩ := h'
  unfold ClsK at a1 b1
  rw [a1] at b1
  cases b1
  rw [a2] at b2
  cases b2
  rw [a3] at b3
  cases b3
  exact codeHdIn_inj a4 b4
/-! ### plain data -/
/-- a lambda's text, the cells that it captured, its code object -/
structure LF where
  qual : Str
  params : Arguments
  body : Expr
  scope : Scope
  cl : List (Str × Addr)
  c : Addr
/-- the object at a is that function -/
def LamO (a : Addr) (F : LF) : HO := .ext fun h => ∃ (pm ctv : Value), h.get? a = some (PySem.W.kla_obj "<lambda>" F.qual F.params F.body F.scope F.cl pm F.c ctv)
inductive D where
  | non | bl (b : Bool) | int (i : Int) | str (s : Str)
  | lst (ds : List D) | slst (ds : List D) | tup (ds : List D) | dic (kvs : List (Key × D))
  | ref (a : Addr) | ty (n : String) | cel (k : Nat) | fn (f : Str) | dicB (b : Bool) (d : D)
  | clo (a : Addr) (F : LF) (vs : List V) (ds : List D)

abbrev AsM := Nat → Option Addr
/-- a dict of one key, a truth -/
def BdOb (a : Addr) (od : Obj) (e : DictEntry) (ep : Nat) (b : Bool) (v : V) : Prop := od.ExactDict ∧ (a == sysModules) = false ∧ od.data = .dict #[e] ep ∧ e.key = .bool b ∧ RelV v e.val

mutual
inductive Rp (K : PySem.W.Frag) (as : AsM) (H : Hp) : V → D → Prop
  | non : Rp K as H .non .non
  | bl (b : Bool) : Rp K as H (.bl b) (.bl b)
  | int (i : Int) : Rp K as H (.int i) (.int i)
  | str (x : Str) : Rp K as H (.str x) (.str x)
  | lst {a : Addr} {xs : List V} {ds : List D} : H a = some (.lst xs) → RpA K as H xs ds → Rp K as H (.ref a) (.lst ds)
  | slst {a : Addr} {xs : List V} {ds : List D} : SqL K H a xs → RpA K as H xs ds → Rp K as H (.ref a) (.slst ds)
  | tup {a : Addr} {xs : List V} {ds : List D} : SqT K H a xs → RpA K as H xs ds → Rp K as H (.ref a) (.tup ds)
  | dic {a : Addr} {od : Obj} {xs : List (Key × V)} {ds : List (Key × D)} : H a = some (.frz od (.dK xs)) → RpK K as H xs ds → Rp K as H (.ref a) (.dic ds)
  | ref (a : Addr) : Rp K as H (.ref a) (.ref a)
  | ty (n : String) : Rp K as H (.ty n) (.ty n)
  | cel {k : Nat} {p : Addr} : as k = some p → Rp K as H (.ref p) (.cel k)
  | fn {f : Str} {p : Addr} : ClsK K f p → Rp K as H (.ref p) (.fn f)
  | dicB {a : Addr} {od : Obj} {e : DictEntry} {ep : Nat} {b : Bool} {v : V} {d : D} : H a = some (.frz od (.ext fun _ => True)) → BdOb a od e ep b v → Rp K as H v d → Rp K as H (.ref a) (.dicB b d)
  | clo {a : Addr} {F : LF} {vs : List V} {ds : List D} : H a = some (LamO a F) → H F.c = some (LamX.CodeO F.c F.qual) → RpA K as H vs ds → Rp K as H (.ref a) (.clo a F vs ds)
inductive RpA (K : PySem.W.Frag) (as : AsM) (H : Hp) : List V → List D → Prop
  | nil : RpA K as H [] []
  | cons {v : V} {vs : List V} {d : D} {ds : List D} : Rp K as H v d → RpA K as H vs ds → RpA K as H (v :: vs) (d :: ds)
inductive RpK (K : PySem.W.Frag) (as : AsM) (H : Hp) : List (Key × V) → List (Key × D) → Prop
  | nil : RpK K as H [] []
  | cons {k : Key} {v : V} {vs : List (Key × V)} {d : D} {ds : List (Key × D)} : Rp K as H v d → RpK K as H vs ds → RpK K as H ((k, v) :: vs) ((k, d) :: ds)
end

structure Le (as : AsM) (H : Hp) (as' : AsM) (H' : Hp) : Prop where
  hp : ∀ a o, H a = some o → H' a = some o
  am : ∀ k p, as k = some p → as' k = some p
theorem Le.refl {as : AsM} {H : Hp} : Le as H as H := ⟨fun _ _ h => h, fun _ _ h => h⟩
theorem Le.trans {as as1 as2 : AsM} {H H1 H2 : Hp} (a : Le as H as1 H1) (b : Le as1 H1 as2 H2) : Le as H as2 H2 :=
  ⟨fun x o h => b.hp x o (a.hp x o h), fun x o h => b.am x o (a.am x o h)⟩
theorem seqL_mono {K : PySem.W.Frag} {H H' : Hp} {a : Addr} {xs : List V} (e : ∀ a o, H a = some o → H' a = some o) (h : SqL K H a xs) : SqL K H' a xs := by
  rcases h with (h | ⟨o, h⟩) | h
  · exact .inl (.inl (e _ _ h))
  · exact .inl (.inr ⟨o, e _ _ h⟩)
  · exact .inr h
theorem seqT_mono {K : PySem.W.Frag} {H H' : Hp} {a : Addr} {xs : List V} (e : ∀ a o, H a = some o → H' a = some o) (h : SqT K H a xs) : SqT K H' a xs := by
  rcases h with (h | ⟨o, h⟩) | h
  · exact .inl (.inl (e _ _ h))
  · exact .inl (.inr ⟨o, e _ _ h⟩)
  · exact .inr h
section
variable {K : PySem.W.Frag} {as as' : AsM} {H H' : Hp}
mutual
theorem Rp.mono (l : Le as H as' H') : ∀ {d : D} {v : V}, Rp K as H v d → Rp K as' H' v d
  | .non, _, h => by cases h; exact .non
  | .bl _, _, h => by cases h; exact .bl _
  | .int _, _, h => by cases h; exact .int _
  | .str _, _, h => by cases h; exact .str _
  | .lst ds, _, h => by cases h with | lst h1 h2 => exact .lst (l.hp _ _ h1) (RpA.mono l h2)
  | .slst ds, _, h => by cases h with | slst h1 h2 => exact .slst (seqL_mono l.hp h1) (RpA.mono l h2)
  | .tup ds, _, h => by cases h with | tup h1 h2 => exact .tup (seqT_mono l.hp h1) (RpA.mono l h2)
  | .dic ds, _, h => by cases h with | dic h1 h2 => exact .dic (l.hp _ _ h1) (RpK.mono l h2)
  | .ref _, _, h => by cases h; exact .ref _
  | .ty _, _, h => by cases h; exact .ty _
  | .cel _, _, h => by cases h with | cel h1 => exact .cel (l.am _ _ h1)
  | .fn _, _, h => by cases h with | fn h1 => exact .fn h1
  | .dicB _ _, _, h => by cases h with | dicB h1 h2 h3 => exact .dicB (l.hp _ _ h1) h2 (Rp.mono l h3)
  | .clo _ _ _ _, _, h => by cases h with | clo h1 h2 h3 => exact .clo (l.hp _ _ h1) (l.hp _ _ h2) (RpA.mono l h3)
theorem RpA.mono (l : Le as H as' H') : ∀ {ds : List D} {vs : List V}, RpA K as H vs ds → RpA K as' H' vs ds
  | [], _, h => by cases h; exact .nil
  | d :: ds, _, h => by cases h with | cons h1 h2 => exact .cons (Rp.mono l h1) (RpA.mono l h2)
theorem RpK.mono (l : Le as H as' H') : ∀ {ds : List (Key × D)} {vs : List (Key × V)}, RpK K as H vs ds → RpK K as' H' vs ds
  | [], _, h => by cases h; exact .nil
  | (k, d) :: ds, _, h => by cases h with | cons h1 h2 => exact .cons (Rp.mono l h1) (RpK.mono l h2)
end
theorem RpA.length : ∀ {ds : List D} {vs : List V}, RpA K as H vs ds → vs.length = ds.length
  | [], _, h => by cases h; rfl
  | d :: ds, _, h => by cases h with | cons h1 h2 => exact congrArg Nat.succ (RpA.length h2)
theorem RpA.append : ∀ {ds es : List D} {vs us : List V}, RpA K as H vs ds → RpA K as H us es → RpA K as H (vs ++ us) (ds ++ es)
  | [], _, _, _, h, g => by cases h; exact g
  | d :: ds, _, _, _, h, g => by cases h with | cons h1 h2 => exact .cons h1 (RpA.append h2 g)
theorem RpA.get : ∀ {ds : List D} {vs : List V} {i : Nat} {d : D}, RpA K as H vs ds → ds[i]? = some d → ∃ v, vs[i]? = some v ∧ Rp K as H v d
  | [], _, i, _, h, e => by simp at e
  | d :: ds, _, 0, _, h, e => by cases h with | cons h1 h2 => simp at e; subst e; exact ⟨_, rfl, h1⟩
  | d :: ds, _, i + 1, _, h, e => by
    cases h with
    | cons h1 h2 =>
      obtain ⟨v, q, r⟩ := RpA.get (i := i) h2 (by simpa using e)
      exact ⟨v, by simpa using q, r⟩
theorem RpA.set : ∀ {ds : List D} {vs : List V} {v : V} {d : D} (i : Nat), RpA K as H vs ds → Rp K as H v d → RpA K as H (vs.set i v) (ds.set i d)
  | [], _, _, _, i, h, r => by cases h; exact .nil
  | d :: ds, _, _, _, 0, h, r => by cases h with | cons h1 h2 => exact .cons r h2
  | d :: ds, _, _, _, i + 1, h, r => by cases h with | cons h1 h2 => exact .cons h1 (RpA.set i h2 r)
theorem RpA.take : ∀ {ds : List D} {vs : List V} (n : Nat), RpA K as H vs ds → RpA K as H (vs.take n) (ds.take n)
  | _, _, 0, _ => .nil
  | [], _, n + 1, h => by cases h; exact .nil
  | d :: ds, _, n + 1, h => by cases h with | cons h1 h2 => exact .cons h1 (RpA.take n h2)
theorem RpA.drop : ∀ {ds : List D} {vs : List V} (n : Nat), RpA K as H vs ds → RpA K as H (vs.drop n) (ds.drop n)
  | _, _, 0, h => h
  | [], _, n + 1, h => by cases h; exact .nil
  | d :: ds, _, n + 1, h => by cases h with | cons h1 h2 => exact RpA.drop n h2
theorem RpA.ints : ∀ {ns : List Int}, RpA K as H (ns.map V.int) (ns.map D.int)
  | [] => .nil
  | n :: ns => .cons (.int n) RpA.ints
end

/-- what flies: the class by its name, its fields where it has its own dict -/
structure DX where
  cls : Str
  fs : Option (List (Str × D))
inductive XD (K : PySem.W.Frag) (as : AsM) (H0 : Hp) : DX → Option Addr → Prop
  | no (C : Str) : XD K as H0 ⟨C, none⟩ none
  | fs {C : Str} {d : Addr} {vs : List (Str × V)} {ds : List (Str × D)} : H0 d = some (.xd vs) → Paired (fun (p : Str × V) (q : Str × D) => p.1 = q.1 ∧ Rp K as H0 p.2 q.2) vs ds → XD K as H0 ⟨C, some ds⟩ (some d)
theorem XD.mono {K : PySem.W.Frag} {as as' : AsM} {H H' : Hp} {x : DX} {d : Option Addr} (l : Le as H as' H') (h : XD K as H x d) : XD K as' H' x d := by
  cases h with
  | no => exact .no _
  | fs h1 h2 => exact .fs (l.hp _ _ h1) (L2.Paired.mapP h2 fun _ _ z => ⟨z.1, z.2.mono l⟩)
/-- an exception that is kept -/
def ExH (cls : Value) (d : Option Addr) (a : Addr) : HO := .ext fun h => ∃ oe : Obj, h.get? a = some oe ∧ Zc cls d oe ∧ ∃ vs, oe.data = .fields vs
/-! ### the mini heap of things that change -/
inductive Co where
  | lst (ds : List D) | dic (kvs : List (Key × D)) | ins (n : Str) (fs : List (Str × D)) | fdic (od : Obj) (vs : List (Key × V)) (kvs : List (Key × D)) | exc (x : DX) | any (u : HO) | tab (x q : Str)
abbrev Cells := Nat → Option Co
def put (cs : Cells) (k : Nat) (o : Co) : Cells := fun j => if j = k then some o else cs j
def del (cs : Cells) (k : Nat) : Cells := fun j => if j = k then none else cs j
@[simp] theorem put_same {cs : Cells} {k : Nat} {o : Co} : put cs k o k = some o := if_pos rfl
theorem put_ne {cs : Cells} {k j : Nat} {o : Co} (h : j ≠ k) : put cs k o j = cs j := if_neg h
@[simp] theorem put_put {cs : Cells} {k : Nat} {o u : Co} : put (put cs k o) k u = put cs k u := by
  funext j; unfold put; split <;> rfl
theorem del_put {cs : Cells} {k : Nat} {o : Co} (h : cs k = none) : del (put cs k o) k = cs := by
  funext j
  show (if j = k then none else (if j = k then some o else cs j)) = cs j
  by_cases e : j = k
  · rw [if_pos e, e]; exact h.symm
  · rw [if_neg e, if_neg e]
theorem put_back {cs : Cells} {k : Nat} {o : Co} (h : cs k = some o) : put cs k o = cs := by
  funext j; unfold put; split
  · rename_i e; rw [e]; exact h.symm
  · rfl
inductive RpC (K : PySem.W.Frag) (as : AsM) (H0 : Hp) : Addr → HO → Co → Prop
  | lst {p : Addr} {vs : List V} {ds : List D} : RpA K as H0 vs ds → RpC K as H0 p (.lst vs) (.lst ds)
  | dic {p : Addr} {vs : List (Key × V)} {ds : List (Key × D)} : RpK K as H0 vs ds → RpC K as H0 p (.dK vs) (.dic ds)
  | ins {p C dx : Addr} {n : Str} {vs : List (Str × V)} {ds : List (Str × D)} : ClsK K n C → Paired (fun (p : Str × V) (q : Str × D) => p.1 = q.1 ∧ Rp K as H0 p.2 q.2) vs ds → RpC K as H0 p (.ins C dx vs) (.ins n ds)
  | fdic {p : Addr} {od : Obj} {vs : List (Key × V)} {ds : List (Key × D)} : RpK K as H0 vs ds → RpC K as H0 p (.frz od (.dK vs)) (.fdic od vs ds)
  | exc {p : Addr} {x : DX} {C : Addr} {d : Option Addr} : XD K as H0 x d → ClsK K x.cls C → RpC K as H0 p (ExH (.ref C) d p) (.exc x)
  | any {p : Addr} {u : HO} : RpC K as H0 p u (.any u)
  | tab {p : Addr} {ps : Array Value} {x q : Str} : TabK K x p → TriplesOk ps.toList → (∀ (pos : Pos) (cv : Value), codeAmong pos ps.toList = some cv → ∃ c, cv = .ref c ∧ H0 c = some (LamX.CodeO c q)) → RpC K as H0 p (.tbl ps) (.tab x q)
theorem RpC.mono {K : PySem.W.Frag} {as as' : AsM} {H H' : Hp} {p : Addr} {u : HO} {o : Co} (l : Le as H as' H') (h : RpC K as H p u o) : RpC K as' H' p u o := by
  cases h with
  | lst h => exact .lst (h.mono l)
  | dic h => exact .dic (h.mono l)
  | fdic h => exact .fdic (h.mono l)
  | exc h h' => exact .exc (h.mono l) h'
  | any => exact .any
  | tab h0 h1 h2 => exact .tab h0 h1 fun pos cv hc => (h2 pos cv hc).elim fun c z => ⟨c, z.1, l.hp _ _ z.2⟩
  | ins hc h => exact .ins hc (L2.Paired.mapP h fun _ _ z => ⟨z.1, z.2.mono l⟩)

structure Z where
  env : List (Option D)
  cs : Cells

/-- the heap side -/
structure OkC (K : PySem.W.Frag) (as : AsM) (H0 H : Hp) (cs : Cells) : Prop where
  ex : ∀ a o, H0 a = some o → H a = some o
  fin : ∃ n, ∀ k, n ≤ k → as k = none
  cel : ∀ k o, cs k = some o → ∃ p u, as k = some p ∧ H0 p = none ∧ H p = some u ∧ RpC K as H0 p u o
  inj : ∀ k k' p, as k = some p → as k' = some p → cs k ≠ none → cs k' ≠ none → k = k'
/-- the names' side -/
structure OkE (K : PySem.W.Frag) (as : AsM) (H0 : Hp) (σ : L2.St) (env : List (Option D)) : Prop where
  len : env.length = σ.length
  at_ : ∀ (i : Nat) (d : D), env[i]? = some (some d) → ∃ v, σ[i]? = some (some v) ∧ Rp K as H0 v d
structure Ok (K : PySem.W.Frag) (as : AsM) (H0 H : Hp) (σ : L2.St) (z : Z) : Prop where
  c : OkC K as H0 H z.cs
  e : OkE K as H0 σ z.env
theorem OkE.mono {K : PySem.W.Frag} {as as' : AsM} {H H' : Hp} {σ : L2.St} {env : List (Option D)} (l : Le as H as' H') (h : OkE K as H σ env) : OkE K as' H' σ env :=
  ⟨h.len, fun i d e => let ⟨v, a, b⟩ := h.at_ i d e; ⟨v, a, b.mono l⟩⟩
theorem OkE.set {K : PySem.W.Frag} {as : AsM} {H : Hp} {σ : L2.St} {env : List (Option D)} {v : V} {d : D} (h : OkE K as H σ env) (i : Nat) (r : Rp K as H v d) : OkE K as H (σ.set i (some v)) (env.set i (some d)) := by
  refine ⟨by rw [List.length_set, List.length_set]; exact h.len, fun j e hj => ?_⟩
  by_cases hij : i = j
  · subst hij
    have hlt : i < env.length := by
      rcases Nat.lt_or_ge i env.length with q | q
      · exact q
      · rw [List.getElem?_eq_none (by rw [List.length_set]; exact q)] at hj; cases hj
    rw [List.getElem?_set_self hlt] at hj
    cases hj
    exact ⟨v, by rw [List.getElem?_set_self (by rw [← h.len]; exact hlt)], r⟩
  · rw [List.getElem?_set_ne hij] at hj
    obtain ⟨v', a, b⟩ := h.at_ j e hj
    exact ⟨v', by rw [List.getElem?_set_ne hij]; exact a, b⟩
/-- the world grows by a known thing -/
theorem OkC.grow {K : PySem.W.Frag} {as : AsM} {H0 H : Hp} {cs : Cells} {p : Addr} {o : HO} (h : OkC K as H0 H cs) (hp : H p = none) : Le as H0 as (upd H0 p o) ∧ OkC K as (upd H0 p o) (upd H p o) cs := by
  have n0 : H0 p = none := by
    cases q : H0 p with
    | none => rfl
    | some u => rw [h.ex p u q] at hp; cases hp
  have l : Le as H0 as (upd H0 p o) := ⟨fun a u e => by rw [upd_ne (ne_of_none e n0)]; exact e, fun _ _ e => e⟩
  refine ⟨l, ⟨fun a u e => ?_, h.fin, fun k u e => ?_, h.inj⟩⟩
  · by_cases q : a = p
    · subst q; rw [upd_same] at e ⊢; exact e
    · rw [upd_ne q] at e ⊢; exact h.ex a u e
  · obtain ⟨p', u', h1, h2, h3, h4⟩ := h.cel k u e
    have ne : p' ≠ p := ne_of_none h3 hp
    exact ⟨p', u', h1, by rw [upd_ne ne]; exact h2, by rw [upd_ne ne]; exact h3, h4.mono l⟩
/-- a new thing that may change -/
theorem OkC.cell {K : PySem.W.Frag} {as : AsM} {H0 H : Hp} {cs : Cells} {p : Addr} {u : HO} {o : Co} (h : OkC K as H0 H cs) (hp : H p = none) (r : RpC K as H0 p u o) :
    ∃ k as', cs k = none ∧ Le as H0 as' H0 ∧ OkC K as' H0 (upd H p u) (put cs k o) ∧ as' k = some p := by
  obtain ⟨n, hn⟩ := h.fin
  have an : as n = none := hn n (Nat.le_refl _)
  have n0 : H0 p = none := by
    cases q : H0 p with
    | none => rfl
    | some u => rw [h.ex p u q] at hp; cases hp
  have cn : cs n = none := by
    cases q : cs n with
    | none => rfl
    | some u => obtain ⟨p', _, h1, _⟩ := h.cel n u q; rw [an] at h1; cases h1
  have l : Le as H0 (fun k => if k = n then some p else as k) H0 := ⟨fun _ _ e => e, fun k q e => by
    have : k ≠ n := fun z => by subst z; rw [an] at e; cases e
    show (if k = n then some p else as k) = _
    rw [if_neg this]; exact e⟩
  refine ⟨n, _, cn, l, ⟨fun a u e => ?_, ⟨n + 1, fun k hk => ?_⟩, fun k u e => ?_, fun k k' q e1 e2 c1 c2 => ?_⟩, if_pos rfl⟩
  · rw [upd_ne (ne_of_none e n0)]; exact h.ex a u e
  · show (if k = n then some p else as k) = none
    rw [if_neg (by omega)]; exact hn k (by omega)
  · by_cases q : k = n
    · subst q
      rw [put_same] at e; cases e
      exact ⟨p, _, if_pos rfl, n0, upd_same, r.mono l⟩
    · rw [put_ne q] at e
      obtain ⟨p', u', h1, h2, h3, h4⟩ := h.cel k u e
      exact ⟨p', u', by rw [if_neg q]; exact h1, h2, by rw [upd_ne (ne_of_none h3 hp)]; exact h3, h4.mono l⟩
  · have old : ∀ j q', j ≠ n → put cs n o j ≠ none → as j = some q' → q' ≠ p := fun j q' hj c e z => by
      subst z
      rw [put_ne hj] at c
      cases w : cs j with
      | none => exact c w
      | some u =>
        obtain ⟨p', _, h1, _, h3, _⟩ := h.cel j u w
        rw [e] at h1; cases h1
        rw [hp] at h3; cases h3
    by_cases q1 : k = n
    · by_cases q2 : k' = n
      · rw [q1, q2]
      · rw [if_pos q1] at e1; rw [if_neg q2] at e2
        cases e1
        exact absurd rfl (old k' p q2 c2 e2)
    · by_cases q2 : k' = n
      · rw [if_pos q2] at e2; rw [if_neg q1] at e1
        cases e2
        exact absurd rfl (old k p q1 c1 e1)
      · rw [if_neg q1] at e1; rw [if_neg q2] at e2
        rw [put_ne q1] at c1; rw [put_ne q2] at c2
        exact h.inj k k' q e1 e2 c1 c2
/-- such a thing turns -/
theorem OkC.turn {K : PySem.W.Frag} {as : AsM} {H0 H : Hp} {cs : Cells} {k : Nat} {p : Addr} {u : HO} {o o0 : Co} (h : OkC K as H0 H cs) (hk : cs k = some o0) (hp : as k = some p) (r : RpC K as H0 p u o) :
    OkC K as H0 (upd H p u) (put cs k o) := by
  obtain ⟨p', u', h1, n0, h3, _⟩ := h.cel k o0 hk
  rw [hp] at h1; cases h1
  refine ⟨fun a w e => ?_, h.fin, fun j w e => ?_, fun j j' q e1 e2 c1 c2 => ?_⟩
  · rw [upd_ne (ne_of_none e n0)]; exact h.ex a w e
  · by_cases q : j = k
    · subst q
      rw [put_same] at e; cases e
      exact ⟨p, _, hp, n0, upd_same, r⟩
    · rw [put_ne q] at e
      obtain ⟨p', u', g1, g2, g3, g4⟩ := h.cel j w e
      have ne : p' ≠ p := fun z => by
        subst z
        exact q (h.inj j k p' g1 hp (by rw [e]; simp) (by rw [hk]; simp))
      exact ⟨p', u', g1, g2, by rw [upd_ne ne]; exact g3, g4⟩
  · have low : ∀ j, put cs k o j ≠ none → cs j ≠ none := fun j c => by
      by_cases q : j = k
      · subst q; rw [hk]; simp
      · rw [put_ne q] at c; exact c
    exact h.inj j j' q e1 e2 (low j c1) (low j' c2)
/-- it becomes a thing that is known for good -/
theorem OkC.freeze {K : PySem.W.Frag} {as : AsM} {H0 H : Hp} {cs : Cells} {k : Nat} {p : Addr} {u : HO} {o : Co} (h : OkC K as H0 H cs) (hk : cs k = some o) (hp : as k = some p) (hu : H p = some u) :
    Le as H0 as (upd H0 p u) ∧ OkC K as (upd H0 p u) H (del cs k) := by
  obtain ⟨p', u', h1, n0, h3, _⟩ := h.cel k o hk
  rw [hp] at h1; cases h1
  have l : Le as H0 as (upd H0 p u) := ⟨fun a w e => by rw [upd_ne (ne_of_none e n0)]; exact e, fun _ _ e => e⟩
  have low : ∀ j, del cs k j ≠ none → j ≠ k ∧ cs j ≠ none := fun j c => by
    by_cases q : j = k
    · exact absurd (if_pos q) c
    · unfold del at c; rw [if_neg q] at c; exact ⟨q, c⟩
  refine ⟨l, ⟨fun a w e => ?_, h.fin, fun j w e => ?_, fun j j' q e1 e2 c1 c2 => h.inj j j' q e1 e2 (low j c1).2 (low j' c2).2⟩⟩
  · by_cases q : a = p
    · subst q; rw [upd_same] at e; rw [← e]; exact hu
    · rw [upd_ne q] at e; exact h.ex a w e
  · have q := (low j (by rw [e]; simp)).1
    have e' : cs j = some w := by unfold del at e; rw [if_neg q] at e; exact e
    obtain ⟨p', u', g1, g2, g3, g4⟩ := h.cel j w e'
    have ne : p' ≠ p := fun z => by
      subst z
      exact q (h.inj j k p' g1 hp (by rw [e']; simp) (by rw [hk]; simp))
    exact ⟨p', u', g1, by rw [upd_ne ne]; exact g2, g3, g4.mono l⟩

/-! ### what is said of code -/
abbrev DE := Z → (D → Z → Prop) → Prop
abbrev DA := Z → (List D → Z → Prop) → Prop
abbrev DT := Z → (Bool → Z → Prop) → Prop
structure DEnds where
  nx : Z → Prop
  rt : D → Cells → Prop
  bk : Z → Prop := fun _ => False
  ct : Z → Prop := fun _ => False
  xx : DX → Z → Prop := fun _ _ => False
abbrev DS := DEnds → Z → Prop

def lift (K : PySem.W.Frag) (de : DE) : TE := fun σ H Q => ∃ as H0 c R, Ok K as H0 H σ c ∧ de c R ∧
  ∀ as' H0' H' c' v d, Le as H0 as' H0' → Ok K as' H0' H' σ c' → Rp K as' H0' v d → R d c' → Q v H'
def liftA (K : PySem.W.Frag) (da : DA) : TA := fun σ H Q => ∃ as H0 c R, Ok K as H0 H σ c ∧ da c R ∧
  ∀ as' H0' H' c' vs ds, Le as H0 as' H0' → Ok K as' H0' H' σ c' → RpA K as' H0' vs ds → R ds c' → Q vs H'
def liftT (K : PySem.W.Frag) (dt : DT) : TT := fun σ H Q => ∃ as H0 c R, Ok K as H0 H σ c ∧ dt c R ∧
  ∀ as' H0' H' c' b, Le as H0 as' H0' → Ok K as' H0' H' σ c' → R b c' → Q b H'
/-- a wish of the low side about what flies, kept by one of ours -/
def Tie (K : PySem.W.Frag) (mg : Str → Option Value) (as : AsM) (H0 : Hp) (xx : DX → Z → Prop) (W : WX) : Prop :=
  ∀ as' H0' H' σ' c' x d C, Le as H0 as' H0' → Ok K as' H0' H' σ' c' → XD K as' H0' x d → mg x.cls = some (.ref C) → xx x c' → W (.ref C) d σ' H'
theorem Tie.mono {K : PySem.W.Frag} {mg : Str → Option Value} {as as1 : AsM} {H0 H1 : Hp} {xx : DX → Z → Prop} {W : WX} (h : Tie K mg as H0 xx W) (l : Le as H0 as1 H1) : Tie K mg as1 H1 xx W :=
  fun _ _ _ _ _ _ _ _ l' o q e z => h _ _ _ _ _ _ _ _ (l.trans l') o q e z
structure Exits (K : PySem.W.Frag) (mg : Str → Option Value) (W : WX) (as : AsM) (H0 : Hp) (DD : DEnds) (Dn : Ends) : Prop where
  nx : ∀ as' H0' H' σ' c', Le as H0 as' H0' → Ok K as' H0' H' σ' c' → DD.nx c' → Dn.nx σ' H'
  bk : ∀ as' H0' H' σ' c', Le as H0 as' H0' → Ok K as' H0' H' σ' c' → DD.bk c' → Dn.bk σ' H'
  ct : ∀ as' H0' H' σ' c', Le as H0 as' H0' → Ok K as' H0' H' σ' c' → DD.ct c' → Dn.ct σ' H'
  rt : ∀ as' H0' H' cs' v d, Le as H0 as' H0' → OkC K as' H0' H' cs' → Rp K as' H0' v d → DD.rt d cs' → Dn.rt v H'
  xx : Tie K mg as H0 DD.xx W
theorem Exits.mono {K : PySem.W.Frag} {mg : Str → Option Value} {W : WX} {as as1 : AsM} {H0 H1 : Hp} {DD : DEnds} {Dn : Ends} (h : Exits K mg W as H0 DD Dn) (l : Le as H0 as1 H1) : Exits K mg W as1 H1 DD Dn :=
  ⟨fun _ _ _ _ _ l' o q => h.nx _ _ _ _ _ (l.trans l') o q, fun _ _ _ _ _ l' o q => h.bk _ _ _ _ _ (l.trans l') o q, fun _ _ _ _ _ l' o q => h.ct _ _ _ _ _ (l.trans l') o q, fun _ _ _ _ _ _ l' o r q => h.rt _ _ _ _ _ _ (l.trans l') o r q, h.xx.mono l⟩
def liftS (K : PySem.W.Frag) (mg : Str → Option Value) (W : WX) (ds : DS) : TS := fun Dn σ H => ∃ as H0 c DD, Ok K as H0 H σ c ∧ ds DD c ∧ Exits K mg W as H0 DD Dn

abbrev PD (X : Cx) (e : Expr) (de : DE) : Prop := PE X e (lift X.K de)
abbrev PDA (X : Cx) (es : List Expr) (da : DA) : Prop := PA X es (liftA X.K da)
abbrev PDT (X : Cx) (e : Expr) (dt : DT) : Prop := PT X e (liftT X.K dt)
abbrev PDW (X : Cx) (e : Expr) (dt : DT) : Prop := PW X e (liftT X.K dt)
abbrev PDS (X : Cx) (st : Stmt) (ds : DS) : Prop := ∀ W : WX, Takes X W → PS X st (liftS X.K X.mg W ds)
abbrev PDB (X : Cx) (sts : List Stmt) (ds : DS) : Prop := ∀ W : WX, Takes X W → PSs X sts (liftS X.K X.mg W ds)

section
variable {X : Cx}
theorem pe_imp {e : Expr} {t t' : TE} (h : PE X e t) (i : ∀ σ H Q, t' σ H Q → t σ H Q) : PE X e t' := ⟨fun pins s σ H Q I q => h.run pins s σ H Q I (i σ H Q q)⟩
/-- what an expression gives is locked for good -/
theorem pe_frz {e : Expr} {t : TE} (h : PE X e t) : PE X e (fun σ H Q => t σ H fun v H1 => ∃ d u, v = .ref d ∧ H1 d = some u ∧ Mut (some u) ∧ ∀ od, Q v (upd H1 d (.frz od u))) := by
  refine ⟨fun pins s σ H Q I q => thn (h.run pins s σ H _ I q) fun v s1 ⟨x, H1, I1, r, d, u, ev, hd, mu, q1⟩ => ?_⟩
  obtain ⟨od, I2⟩ := I1.lock hd mu
  exact ⟨x, _, I2, r, q1 od⟩
theorem upd_upd {H : Hp} {p : Addr} {o u : HO} : upd (upd H p o) p u = upd H p u := by
  funext b
  by_cases q : b = p
  · subst q; rw [upd_same, upd_same]
  · rw [upd_ne q, upd_ne q, upd_ne q]
theorem pt_imp {e : Expr} {t t' : TT} (h : PT X e t) (i : ∀ σ H Q, t' σ H Q → t σ H Q) : PT X e t' := ⟨fun pins s σ H Q I q => h.run pins s σ H Q I (i σ H Q q)⟩
theorem pw_imp {e : Expr} {t t' : TT} (h : PW X e t) (i : ∀ σ H Q, t' σ H Q → t σ H Q) : PW X e t' := ⟨fun wh pins s σ H Q I q => h.run wh pins s σ H Q I (i σ H Q q)⟩
theorem pa_imp {es : List Expr} {t t' : TA} (h : PA X es t) (i : ∀ σ H Q, t' σ H Q → t σ H Q) : PA X es t' := ⟨fun pos pins s σ H Q I q => h.run pos pins s σ H Q I (i σ H Q q)⟩
theorem ps_imp {st : Stmt} {t t' : TS} (h : PS X st t) (i : ∀ Dn σ H, t' Dn σ H → t Dn σ H) : PS X st t' := ⟨fun pins s σ H Dn I q => h.run pins s σ H Dn I (i Dn σ H q)⟩
theorem pss_imp {st : List Stmt} {t t' : TS} (h : PSs X st t) (i : ∀ Dn σ H, t' Dn σ H → t Dn σ H) : PSs X st t' := ⟨fun pins s σ H Dn I q => h.run pins s σ H Dn I (i Dn σ H q)⟩
end

/-! ### names, constants -/
def dVar (i : Nat) : DE := fun c R => ∃ d, c.env[i]? = some (some d) ∧ R d c
def dC (d : D) : DE := fun c R => R d c
section
variable {X : Cx}
theorem pd_var (i : Nat) {x : Str} {pos : Pos} (hN : X.N[i]? = some x := by rfl) (hv : Vis X.env.scope x := by first | exact Or.inl rfl | exact Or.inr (Or.inl rfl) | exact Or.inr (Or.inr rfl))
    (hd : (x == ("__debug__" : Str)) = false := by decide) (hcd : (x == ("__classdict__" : Str)) = false := by decide) : PD X (.Name x pos) (dVar i) :=
  pe_imp (pe_var hN hv hd hcd) fun σ H Q ⟨as, H0, c, R, ok, ⟨d, e, r⟩, q⟩ => by
    obtain ⟨v, e1, r1⟩ := ok.e.at_ i d e
    exact ⟨v, e1, q _ _ _ _ _ _ .refl ok r1 r⟩
theorem lift_c {K : PySem.W.Frag} {v : V} {d : D} (h : ∀ as H, Rp K as H v d) : ∀ σ H Q, lift K (dC d) σ H Q → tC v σ H Q :=
  fun σ H Q ⟨as, H0, c, R, ok, r, q⟩ => q _ _ _ _ _ _ .refl ok (h _ _) r
theorem pd_int {i : Int} {j pos} : PD X (.Constant (.int i) j pos) (dC (.int i)) := pe_imp pe_int (lift_c fun _ _ => .int i)
theorem pd_bl {b : Bool} {j pos} : PD X (.Constant (.bool b) j pos) (dC (.bl b)) := pe_imp pe_bl (lift_c fun _ _ => .bl b)
theorem pd_non {j pos} : PD X (.Constant .none j pos) (dC .non) := pe_imp pe_non (lift_c fun _ _ => .non)
theorem pd_str {x : Str} {j pos} : PD X (.Constant (.str x) j pos) (dC (.str x)) := pe_imp pe_str (lift_c fun _ _ => .str x)
theorem pd_glob {x : Str} {v : V} {d : D} {u : Value} {pos : Pos} (hg : Gl X x) (hm : X.mg x = some u) (r : RelV v u) (h : ∀ as H, Rp X.K as H v d) (hd : (x == ("__debug__" : Str)) = false := by decide) : PD X (.Name x pos) (dC d) :=
  pe_imp (pe_glob hg hm r hd) (lift_c h)
end

/-! ### operators -/
abbrev DF := D → D → Z → (D → Z → Prop) → Prop
def dBin (f : DF) (da db : DE) : DE := fun c R => da c fun x c1 => db c1 fun y c2 => f x y c2 R
def OpD (K : PySem.W.Frag) (r : R2) (f : DF) : Prop := ∀ as H0 H σ c v1 v2 d1 d2 R (Q : VK), Ok K as H0 H σ c → Rp K as H0 v1 d1 → Rp K as H0 v2 d2 → f d1 d2 c R →
  (∀ as' H0' H' c' v d, Le as H0 as' H0' → Ok K as' H0' H' σ c' → Rp K as' H0' v d → R d c' → Q v H') → r v1 v2 H Q
theorem lift_op {K : PySem.W.Frag} {r : R2} {f : DF} {da db : DE} (h : OpD K r f) : ∀ σ H Q, lift K (dBin f da db) σ H Q → tOp r (lift K da) (lift K db) σ H Q :=
  fun σ H Q ⟨as, H0, c, R, ok, q, k⟩ => ⟨as, H0, c, _, ok, q, fun as1 H1 Hn1 c1 v1 d1 l1 ok1 r1 q1 => ⟨as1, H1, c1, _, ok1, q1, fun as2 H2 Hn2 c2 v2 d2 l2 ok2 r2 q2 =>
    h as2 H2 Hn2 σ c2 v1 v2 d1 d2 R Q ok2 (r1.mono l2) r2 q2 fun as3 H3 Hn3 c3 v3 d3 l3 ok3 r3 q3 => k _ _ _ _ _ _ ((l1.trans l2).trans l3) ok3 r3 q3⟩⟩
theorem opR_or {X : Cx} {f : Value → Value → Sem Value} {r r' : R2} (h : OpR X f r) (h' : OpR X f r') : OpR X f (fun x y H Q => r x y H Q ∨ r' x y H Q) :=
  fun pins s σ H x y v u Q I rx ry z => z.elim (h pins s σ H x y v u Q I rx ry) (h' pins s σ H x y v u Q I rx ry)
def dInt2 (C : Int → Int → Prop) (g : Int → Int → D) : DF := fun x y c R => match x, y with
  | .int i, .int j => C i j ∧ R (g i j) c
  | _, _ => False
theorem opD_int {K : PySem.W.Frag} {C : Int → Int → Prop} {g : Int → Int → V} {g' : Int → Int → D} (hg : ∀ i j as H, Rp K as H (g i j) (g' i j)) : OpD K (rI C g) (dInt2 C g') := by
  intro as H0 H σ c v1 v2 d1 d2 R Q ok r1 r2 h k
  cases d1 with
  | int i =>
    cases d2 with
    | int j => cases r1; cases r2; exact ⟨i, j, rfl, rfl, h.1, k _ _ _ _ _ _ .refl ok (hg i j _ _) h.2⟩
    | _ => exact h.elim
  | _ => exact h.elim
theorem opD_int0 {K : PySem.W.Frag} {g : Int → Int → V} {g' : Int → Int → D} (hg : ∀ i j as H, Rp K as H (g i j) (g' i j)) : OpD K (rI0 g) (dInt2 (fun _ _ => True) g') := by
  intro as H0 H σ c v1 v2 d1 d2 R Q ok r1 r2 h k
  cases d1 with
  | int i =>
    cases d2 with
    | int j => cases r1; cases r2; exact ⟨i, j, rfl, rfl, k _ _ _ _ _ _ .refl ok (hg i j _ _) h.2⟩
    | _ => exact h.elim
  | _ => exact h.elim
end DL

namespace DL
open PySem L2

/-! ### data as the library's -/
mutual
def py : D → PyData
  | .non => .none | .bl b => .bool b | .int i => .int i | .str s => .str s
  | .lst ds => .list (pyA ds) | .slst ds => .list (pyA ds) | .tup ds => .tuple (pyA ds)
  | .dic _ => .none | .ref _ => .none | .ty _ => .none | .cel _ => .none | .fn _ => .none | .dicB _ _ => .none | .clo _ _ _ _ => .none
def pyA : List D → List PyData
  | [] => []
  | d :: ds => py d :: pyA ds
end
mutual
def plain : D → Bool
  | .non => true | .bl _ => true | .int _ => true | .str _ => true
  | .lst ds => plainA ds | .slst ds => plainA ds | .tup ds => plainA ds
  | .dic _ => false | .ref _ => false | .ty _ => false | .cel _ => false | .fn _ => false | .dicB _ _ => false | .clo _ _ _ _ => false
def plainA : List D → Bool
  | [] => true
  | d :: ds => plain d && plainA ds
end
section
variable {K : PySem.W.Frag} {as : AsM} {H0 H : Hp}
mutual
theorem Rp.dp (e : ∀ a o, H0 a = some o → H a = some o) : ∀ {d : D} {v : V}, plain d = true → Rp K as H0 v d → Dp K H v (py d)
  | .non, _, _, h => by cases h; exact .non
  | .bl _, _, _, h => by cases h; exact .bl _
  | .int _, _, _, h => by cases h; exact .int _
  | .str _, _, _, h => by cases h; exact .str _
  | .lst ds, _, p, h => by cases h with | lst h1 h2 => exact .lst (SqL.of (e _ _ h1)) (RpA.dp e p h2)
  | .slst ds, _, p, h => by cases h with | slst h1 h2 => exact .lst (seqL_mono e h1) (RpA.dp e p h2)
  | .tup ds, _, p, h => by cases h with | tup h1 h2 => exact .tup (seqT_mono e h1) (RpA.dp e p h2)
  | .dic ds, _, p, h => by cases p
  | .ref _, _, p, h => by cases p
  | .ty _, _, p, h => by cases p
  | .cel _, _, p, h => by cases p
  | .fn _, _, p, h => by cases p
  | .dicB _ _, _, p, h => by cases p
  | .clo _ _ _ _, _, p, h => by cases p
theorem RpA.dp (e : ∀ a o, H0 a = some o → H a = some o) : ∀ {ds : List D} {vs : List V}, plainA ds = true → RpA K as H0 vs ds → DpAll K H vs (pyA ds)
  | [], _, _, h => by cases h; exact .nil
  | d :: ds, _, p, h => by
    cases h with
    | cons h1 h2 =>
      have p' := Bool.and_eq_true_iff.mp (show (plain d && plainA ds) = true from p)
      exact .cons (Rp.dp e p'.1 h1) (RpA.dp e p'.2 h2)
end
end

/-! ### operators by data -/
section
variable {X : Cx} {K : PySem.W.Frag} {a b c : Expr} {da db dc : DE} {pos : Pos}
theorem pd_bin {op : Operator} {r : R2} {f : DF} (ho : OpR X (binaryOp op) r) (hd : OpD X.K r f) (ha : PD X a da) (hb : PD X b db) : PD X (.BinOp a op b pos) (dBin f da db) := pe_imp (pe_op ho ha hb) (lift_op hd)
theorem pd_cmp {op : CmpOp} {r : R2} {f : DF} (ho : OpR X (compareOp op) r) (hd : OpD X.K r f) (ha : PD X a da) (hb : PD X b db) (hm : behindInMarks op b = false) : PD X (.Compare a [op] [b] pos) (dBin f da db) := pe_imp (pe_cmpR ho ha hb hm) (lift_op hd)

/-! #### plus -/
def dAdd : DF := fun x y c R => match x, y with
  | .int i, .int j => R (.int (i + j)) c
  | .int i, .bl k => R (.int (i + PyProof.Rows.b2i k)) c
  | .str s, .str t => s.length + t.length ≤ sizeLine ∧ R (.str (s ++ t)) c
  | .lst xs, .lst ys => xs.length + ys.length ≤ sizeLine ∧ R (.lst (xs ++ ys)) c
  | .tup xs, .tup ys => xs ≠ [] ∧ xs.length + ys.length ≤ sizeLine ∧ R (.tup (xs ++ ys)) c
  | _, _ => False
/-- a new known thing -/
theorem new_known {σ : L2.St} {as : AsM} {H0 H : Hp} {c : Z} {p : Addr} {o : HO} (ok : Ok K as H0 H σ c) (hp : H p = none) : Le as H0 as (upd H0 p o) ∧ Ok K as (upd H0 p o) (upd H p o) σ c :=
  let ⟨l, k⟩ := ok.c.grow (o := o) hp
  ⟨l, k, ok.e.mono l⟩
theorem rp_lst {as : AsM} {H0 : Hp} {p : Addr} {vs : List V} {ds : List D} (l : Le as H0 as (upd H0 p (.lst vs))) (r : RpA K as H0 vs ds) : Rp K as (upd H0 p (.lst vs)) (.ref p) (.lst ds) := .lst upd_same (r.mono l)
theorem rp_tup {as : AsM} {H0 : Hp} {p : Addr} {vs : List V} {ds : List D} (l : Le as H0 as (upd H0 p (.tup vs))) (r : RpA K as H0 vs ds) : Rp K as (upd H0 p (.tup vs)) (.ref p) (.tup ds) := .tup (SqT.of upd_same) (r.mono l)
def rAdd5 (K : PySem.W.Frag) : R2 := fun x y H Q => rI0 (fun i j => .int (i + j)) x y H Q ∨ (∃ i k, x = .int i ∧ y = .bl k ∧ Q (.int (i + PyProof.Rows.b2i k)) H) ∨ (∃ i j, x = .str i ∧ y = .str j ∧ i.length + j.length ≤ sizeLine ∧ Q (.str (i ++ j)) H) ∨ rCat x y H Q ∨ rCatT K x y H Q
theorem op_add5 : OpR X (binaryOp .Add) (rAdd5 X.K) := opR_or op_add (opR_or op_add_ib (opR_or op_add_str (opR_or op_cat op_catT)))
theorem opD_add : OpD K (rAdd5 K) dAdd := by
  intro as H0 H σ c v1 v2 d1 d2 R Q ok r1 r2 h k
  cases d1 with
  | int i =>
    cases d2 with
    | int j => cases r1; cases r2; exact .inl ⟨i, j, rfl, rfl, k _ _ _ _ _ _ .refl ok (.int _) h⟩
    | bl j => cases r1; cases r2; exact .inr (.inl ⟨i, j, rfl, rfl, k _ _ _ _ _ _ .refl ok (.int _) h⟩)
    | _ => exact h.elim
  | str s =>
    cases d2 with
    | str t => cases r1; cases r2; exact .inr (.inr (.inl ⟨s, t, rfl, rfl, h.1, k _ _ _ _ _ _ .refl ok (.str _) h.2⟩))
    | _ => exact h.elim
  | lst xs =>
    cases d2 with
    | lst ys =>
      cases r1 with
      | lst g1 g2 =>
        cases r2 with
        | lst g3 g4 =>
          refine .inr (.inr (.inr (.inl ⟨_, _, _, _, rfl, rfl, ok.c.ex _ _ g1, ok.c.ex _ _ g3, by rw [g2.length, g4.length]; exact h.1, fun p hp => ?_⟩)))
          obtain ⟨l, ok'⟩ := new_known (o := .lst _) ok hp
          exact k _ _ _ _ _ _ l ok' (rp_lst l (g2.append g4)) h.2
    | _ => exact h.elim
  | tup xs =>
    cases d2 with
    | tup ys =>
      cases r1 with
      | tup g1 g2 =>
        cases r2 with
        | tup g3 g4 =>
          have n1 : ∀ {vs : List V}, RpA K as H0 vs xs → vs ≠ [] := fun {vs} q z => by
            subst z
            have := q.length
            exact h.1 (List.eq_nil_of_length_eq_zero this.symm)
          have q2 := g2.length
          have q4 := g4.length
          refine .inr (.inr (.inr (.inr ⟨_, _, _, _, rfl, rfl, seqT_mono ok.c.ex g1, seqT_mono ok.c.ex g3, n1 g2, by rw [q2, q4]; exact h.2.1, ?_⟩)))
          refine ⟨fun e => ?_, fun e p hp => ?_⟩
          · subst e
            have : ys = [] := List.eq_nil_of_length_eq_zero q4.symm
            subst this
            exact k _ _ _ _ _ _ .refl ok (.tup g1 g2) (by have := h.2.2; rw [List.append_nil] at this; exact this)
          · obtain ⟨l, ok'⟩ := new_known (o := .tup _) ok hp
            exact k _ _ _ _ _ _ l ok' (rp_tup l (g2.append g4)) h.2.2
    | _ => exact h.elim
  | _ => exact h.elim
theorem pd_add (ha : PD X a da) (hb : PD X b db) : PD X (.BinOp a .Add b pos) (dBin dAdd da db) := pd_bin op_add5 opD_add ha hb

/-! #### other arithmetic -/
def dSub : DF := dInt2 (fun _ _ => True) fun i j => .int (i - j)
theorem pd_sub (ha : PD X a da) (hb : PD X b db) : PD X (.BinOp a .Sub b pos) (dBin dSub da db) := pd_bin op_sub (opD_int0 fun _ _ _ _ => .int _) ha hb
def dMul : DF := dInt2 CMul fun i j => .int (i * j)
theorem pd_mul (ha : PD X a da) (hb : PD X b db) : PD X (.BinOp a .Mult b pos) (dBin dMul da db) := pd_bin op_mul (opD_int fun _ _ _ _ => .int _) ha hb
def dDiv : DF := dInt2 (fun _ j => 0 < j ∧ j < 2 ^ 200) fun i j => .int (i / j)
theorem div_room {i j : Int} (h : 0 < j ∧ j < 2 ^ 200) : CDivW i j := wide_div (b := 200) h.1 (by
  have h1 := h.1
  have h2 := h.2
  have e : (2 : Int) ^ 200 = ((2 ^ 200 : Nat) : Int) := by norm_cast
  omega) (by decide) (by decide)
theorem opD_intC {C C' : Int → Int → Prop} {g : Int → Int → V} {g' : Int → Int → D} (hC : ∀ i j, C' i j → C i j) (hg : ∀ i j as H, Rp K as H (g i j) (g' i j)) : OpD K (rI C g) (dInt2 C' g') := by
  intro as H0 H σ c v1 v2 d1 d2 R Q ok r1 r2 h k
  cases d1 with
  | int i =>
    cases d2 with
    | int j => cases r1; cases r2; exact ⟨i, j, rfl, rfl, hC i j h.1, k _ _ _ _ _ _ .refl ok (hg i j _ _) h.2⟩
    | _ => exact h.elim
  | _ => exact h.elim
theorem pd_div (ha : PD X a da) (hb : PD X b db) : PD X (.BinOp a .FloorDiv b pos) (dBin dDiv da db) := pd_bin op_fdivW (opD_intC (fun _ _ h => div_room h) fun _ _ _ _ => .int _) ha hb
def dMod : DF := dInt2 (fun _ j => 0 < j) fun i j => .int (i % j)
theorem pd_mod (ha : PD X a da) (hb : PD X b db) : PD X (.BinOp a .Mod b pos) (dBin dMod da db) := pd_bin op_mod (opD_int fun _ _ _ _ => .int _) ha hb
def dPow : DF := dInt2 CPow fun i j => .int (i ^ j.toNat)
theorem pd_pow (ha : PD X a da) (hb : PD X b db) : PD X (.BinOp a .Pow b pos) (dBin dPow da db) := pd_bin op_pow (opD_int fun _ _ _ _ => .int _) ha hb
def dShl : DF := dInt2 CPow fun i j => .int (i * 2 ^ j.toNat)
theorem pd_shl (ha : PD X a da) (hb : PD X b db) : PD X (.BinOp a .LShift b pos) (dBin dShl da db) := pd_bin op_shl (opD_int fun _ _ _ _ => .int _) ha hb
def dShr : DF := dInt2 (fun _ j => 0 ≤ j) fun i j => .int (i / 2 ^ j.toNat)
def dAnd : DF := dInt2 (fun _ _ => True) fun i j => .int (Builtin.bitAnd i j)
def dOr : DF := dInt2 (fun _ _ => True) fun i j => .int (Builtin.bitOr i j)
def dXor : DF := dInt2 (fun _ _ => True) fun i j => .int (Builtin.bitXor i j)
def dNeg (da : DE) : DE := fun c R => da c fun x c1 => match x with | .int i => R (.int (-i)) c1 | _ => False
theorem pd_neg (ha : PD X a da) : PD X (.UnaryOp .USub a pos) (dNeg da) := pe_imp (pe_un un_neg ha) fun σ H Q ⟨as, H0, c, R, ok, q, k⟩ => ⟨as, H0, c, _, ok, q, fun as1 H1 Hn c1 v d l1 ok1 r1 q1 => by
  cases d with
  | int i => cases r1; exact ⟨i, rfl, k _ _ _ _ _ _ l1 ok1 (.int _) q1⟩
  | _ => exact q1.elim⟩

/-! #### comparisons -/
def dLt : DF := dInt2 (fun _ _ => True) fun i j => .bl (decide (i < j))
def dLe : DF := dInt2 (fun _ _ => True) fun i j => .bl (decide (i ≤ j))
def dGt : DF := dInt2 (fun _ _ => True) fun i j => .bl (decide (j < i))
def dGe : DF := dInt2 (fun _ _ => True) fun i j => .bl (decide (j ≤ i))
theorem opD_lt : OpD K (rI0 fun i j => .bl (decide (i < j))) dLt := opD_int0 fun _ _ _ _ => .bl _
theorem opD_le : OpD K (rI0 fun i j => .bl (decide (i ≤ j))) dLe := opD_int0 fun _ _ _ _ => .bl _
theorem opD_gt : OpD K (rI0 fun i j => .bl (decide (j < i))) dGt := opD_int0 fun _ _ _ _ => .bl _
theorem opD_ge : OpD K (rI0 fun i j => .bl (decide (j ≤ i))) dGe := opD_int0 fun _ _ _ _ => .bl _
theorem pd_le (ha : PD X a da) (hb : PD X b db) : PD X (.Compare a [.LtE] [b] pos) (dBin dLe da db) := pd_cmp op_le opD_le ha hb (nomark _)
theorem pd_ge (ha : PD X a da) (hb : PD X b db) : PD X (.Compare a [.GtE] [b] pos) (dBin dGe da db) := pd_cmp op_ge opD_ge ha hb (nomark _)
def dEq : DF := fun x y c R => match x, y with
  | .int i, .int j => R (.bl (decide (i = j))) c
  | .bl i, .bl j => R (.bl (decide (i = j))) c
  | .str i, .str j => R (.bl (decide (i = j))) c
  | x, y => plain x = true ∧ plain y = true ∧ SeqAt.shaped (py x) = true ∧ SeqAt.shaped (py y) = true ∧ R (.bl (PyData.eqv (py x) (py y))) c
def dNe : DF := fun x y c R => match x, y with
  | .int i, .int j => R (.bl (!decide (i = j))) c
  | .bl i, .bl j => R (.bl (!decide (i = j))) c
  | .str i, .str j => R (.bl (!decide (i = j))) c
  | x, y => plain x = true ∧ plain y = true ∧ SeqAt.shaped (py x) = true ∧ SeqAt.shaped (py y) = true ∧ R (.bl (!PyData.eqv (py x) (py y))) c
theorem dec_i {i j : Int} : decide (V.int i = V.int j) = decide (i = j) := by simp
theorem dec_b {i j : Bool} : decide (V.bl i = V.bl j) = decide (i = j) := by simp
theorem dec_s {i j : Str} : decide (V.str i = V.str j) = decide (i = j) := by simp
theorem opD_eq : OpD K (fun x y H Q => rEq x y H Q ∨ rEqD K x y H Q) dEq := by
  intro as H0 H σ c v1 v2 d1 d2 R Q ok r1 r2 h k
  have dp : ∀ {x y : D} {v u : V}, Rp K as H0 v x → Rp K as H0 u y → plain x = true ∧ plain y = true ∧ SeqAt.shaped (py x) = true ∧ SeqAt.shaped (py y) = true ∧ R (.bl (PyData.eqv (py x) (py y))) c → rEqD K v u H Q :=
    fun a b ⟨h1, h2, h3, h4, h5⟩ => ⟨_, _, a.dp ok.c.ex h1, b.dp ok.c.ex h2, h3, h4, k _ _ _ _ _ _ .refl ok (.bl _) h5⟩
  cases d1 <;> cases d2
  all_goals first
    | exact .inr (dp r1 r2 h)
    | (cases r1; cases r2; exact .inl ⟨rfl, by rw [dec_i]; exact k _ _ _ _ _ _ .refl ok (.bl _) h⟩)
    | (cases r1; cases r2; exact .inl ⟨rfl, by rw [dec_b]; exact k _ _ _ _ _ _ .refl ok (.bl _) h⟩)
    | (cases r1; cases r2; exact .inl ⟨rfl, by rw [dec_s]; exact k _ _ _ _ _ _ .refl ok (.bl _) h⟩)
theorem opD_ne : OpD K (fun x y H Q => rNe x y H Q ∨ rNeD K x y H Q) dNe := by
  intro as H0 H σ c v1 v2 d1 d2 R Q ok r1 r2 h k
  have dp : ∀ {x y : D} {v u : V}, Rp K as H0 v x → Rp K as H0 u y → plain x = true ∧ plain y = true ∧ SeqAt.shaped (py x) = true ∧ SeqAt.shaped (py y) = true ∧ R (.bl (!PyData.eqv (py x) (py y))) c → rNeD K v u H Q :=
    fun a b ⟨h1, h2, h3, h4, h5⟩ => ⟨_, _, a.dp ok.c.ex h1, b.dp ok.c.ex h2, h3, h4, k _ _ _ _ _ _ .refl ok (.bl _) h5⟩
  cases d1 <;> cases d2
  all_goals first
    | exact .inr (dp r1 r2 h)
    | (cases r1; cases r2; exact .inl ⟨rfl, by rw [dec_i]; exact k _ _ _ _ _ _ .refl ok (.bl _) h⟩)
    | (cases r1; cases r2; exact .inl ⟨rfl, by rw [dec_b]; exact k _ _ _ _ _ _ .refl ok (.bl _) h⟩)
    | (cases r1; cases r2; exact .inl ⟨rfl, by rw [dec_s]; exact k _ _ _ _ _ _ .refl ok (.bl _) h⟩)
theorem pd_eq (hu : X.A.units + 64 < cLine) (ha : PD X a da) (hb : PD X b db) : PD X (.Compare a [.Eq] [b] pos) (dBin dEq da db) := pd_cmp (opR_or op_eq (op_eqD hu)) opD_eq ha hb (nomark _)
/-- a op b op' c -/
def dChain (f g : DF) (da db dc : DE) : DE := fun c R => da c fun x c1 => db c1 fun y c2 => f x y c2 fun z c3 => match z with
  | .bl true => dc c3 fun w c4 => g y w c4 R
  | .bl false => R (.bl false) c3
  | _ => False
theorem pd_chain {op op' : CmpOp} {r r' : R2} {f g : DF} (ho : OpR X (compareOp op) r) (hf : OpD X.K r f) (ho' : OpR X (compareOp op') r') (hg : OpD X.K r' g) (ha : PD X a da) (hb : PD X b db) (hc : PD X c dc)
    (hm : lastMarks [op, op'] [b, c] = false) : PD X (.Compare a [op, op'] [b, c] pos) (dChain f g da db dc) :=
  pe_imp (pe_chain ho ho' ha hb hc hm) fun σ H Q ⟨as, H0, c, R, ok, q, k⟩ => ⟨as, H0, c, _, ok, q, fun as1 H1 Hn c1 v1 d1 l1 ok1 r1 q1 => ⟨as1, H1, c1, _, ok1, q1, fun as2 H2 Hn2 c2 v2 d2 l2 ok2 r2 q2 => by
    refine hf as2 H2 Hn2 σ c2 v1 v2 d1 d2 _ _ ok2 (r1.mono l2) r2 q2 fun as3 H3 Hn3 c3 v3 d3 l3 ok3 r3 q3 => ?_
    cases d3 with
    | bl z =>
      cases r3
      refine ⟨z, rfl, ?_⟩
      cases z with
      | true =>
        rw [if_pos rfl]
        exact ⟨as3, H3, c3, _, ok3, q3, fun as4 H4 Hn4 c4 v4 d4 l4 ok4 r4 q4 => hg as4 H4 Hn4 σ c4 v2 v4 d2 d4 R Q ok4 (r2.mono (l3.trans l4)) r4 q4 fun as5 H5 Hn5 c5 v5 d5 l5 ok5 r5 q5 =>
          k _ _ _ _ _ _ ((((l1.trans l2).trans l3).trans l4).trans l5) ok5 r5 q5⟩
      | false =>
        rw [if_neg Bool.false_ne_true]
        exact k _ _ _ _ _ _ ((l1.trans l2).trans l3) ok3 (.bl _) q3
    | _ => exact q3.elim⟩⟩

/-! #### truth -/
def truD : D → Option Bool
  | .non => some false | .bl b => some b | .int i => some (i != 0) | .str s => if s.length ≤ sizeLine then some ((s.length : Int) != 0) else none
  | .lst ds => some (!ds.isEmpty) | .slst ds => some (!ds.isEmpty) | .tup ds => some (!ds.isEmpty) | _ => none
theorem isEmpty_rp {as : AsM} {H : Hp} : ∀ {ds : List D} {vs : List V}, RpA K as H vs ds → (!vs.isEmpty) = !ds.isEmpty
  | [], _, h => by cases h; rfl
  | _ :: _, _, h => by cases h; rfl
theorem truV_of {as : AsM} {H0 H : Hp} {v : V} {d : D} {b : Bool} (e : ∀ a o, H0 a = some o → H a = some o) (r : Rp K as H0 v d) (h : truD d = some b) : TruV K v H b := by
  cases r with
  | non => cases h; rfl
  | bl b => cases h; rfl
  | int i => cases h; rfl
  | str s =>
    have h' : (if s.length ≤ sizeLine then some ((s.length : Int) != 0) else none) = some b := h
    by_cases q : s.length ≤ sizeLine
    · rw [if_pos q] at h'; cases h'; exact ⟨q, rfl⟩
    · rw [if_neg q] at h'; cases h'
  | lst h1 h2 => cases h; exact .inl ⟨_, SqL.of (e _ _ h1), (isEmpty_rp h2).symm⟩
  | slst h1 h2 => cases h; exact .inl ⟨_, seqL_mono e h1, (isEmpty_rp h2).symm⟩
  | tup h1 h2 => cases h; exact .inr (.inl ⟨_, seqT_mono e h1, (isEmpty_rp h2).symm⟩)
  | dic h1 h2 => cases h
  | ref a => cases h
  | ty n => cases h
  | cel h => cases h
  | fn h => cases h
  | dicB h1 h2 h3 => cases h
  | clo h1 h2 h3 => cases h
def dTru (da : DE) : DT := fun c R => da c fun x c1 => ∃ b, truD x = some b ∧ R b c1
theorem pdt_of (ha : PD X a da) (he : ∀ whole, isTrue a X.env whole = (do let v ← whole; standAt a.pos; holding [v] (truthy v)) := by intro _; rfl) : PDT X a (dTru da) :=
  pt_imp (pt_truth ha he) fun σ H Q ⟨as, H0, c, R, ok, q, k⟩ => ⟨as, H0, c, _, ok, q, fun as1 H1 Hn c1 v d l1 ok1 r1 ⟨b, e, q1⟩ => ⟨b, truV_of ok1.c.ex r1 e, k _ _ _ _ _ l1 ok1 q1⟩⟩
def dAndT (ta tb : DT) : DT := fun c R => ta c fun b c1 => match b with | true => tb c1 R | false => R false c1
def dOrT (ta tb : DT) : DT := fun c R => ta c fun b c1 => match b with | true => R true c1 | false => tb c1 R
def dNotT (ta : DT) : DT := fun c R => ta c fun b c1 => R (!b) c1
variable {rest : List Expr} {ta tb : DT}
theorem pdw_one_or (h : PDT X a ta) : PDW X (.BoolOp .Or [a] pos) ta := pw_imp (pw_or1 h) fun _ _ _ q => q
theorem pdw_or (h : PDT X a ta) (g : PDW X (.BoolOp .Or (b :: rest) pos) tb) : PDW X (.BoolOp .Or (a :: b :: rest) pos) (dOrT ta tb) :=
  pw_imp (pw_or h g) fun σ H Q ⟨as, H0, c, R, ok, q, k⟩ => ⟨as, H0, c, _, ok, q, fun as1 H1 Hn c1 z l1 ok1 q1 => by
    cases z with
    | true => exact iteT (k _ _ _ _ _ l1 ok1 q1)
    | false => exact iteF ⟨as1, H1, c1, R, ok1, q1, fun _ _ _ _ _ l2 ok2 q2 => k _ _ _ _ _ (l1.trans l2) ok2 q2⟩⟩
theorem pdt_w (h : PDW X a ta) : PDT X a ta := h.pt
theorem pdt_not (h : PDT X a ta) : PDT X (.UnaryOp .Not a pos) (dNotT ta) :=
  pt_imp (pt_not h) fun σ H Q ⟨as, H0, c, R, ok, q, k⟩ => ⟨as, H0, c, _, ok, q, fun as1 H1 Hn c1 z l1 ok1 q1 => k _ _ _ _ _ l1 ok1 q1⟩
/-- values: and, or, not of truths -/
def dAndV (da db : DE) : DE := fun c R => da c fun x c1 => match x with | .bl true => db c1 R | .bl false => R (.bl false) c1 | _ => False
def dOrV (da db : DE) : DE := fun c R => da c fun x c1 => match x with | .bl true => R (.bl true) c1 | .bl false => db c1 R | _ => False
def dNotV (da : DE) : DE := fun c R => da c fun x c1 => ∃ b, truD x = some b ∧ R (.bl (!b)) c1
theorem pd_one {op} (ha : PD X a da) : PD X (.BoolOp op [a] pos) da := pe_one ha
theorem pd_and (ha : PD X a da) (hb : PD X (.BoolOp .And (b :: rest) pos) db) : PD X (.BoolOp .And (a :: b :: rest) pos) (dAndV da db) :=
  pe_imp (pe_and ha hb) fun σ H Q ⟨as, H0, c, R, ok, q, k⟩ => ⟨as, H0, c, _, ok, q, fun as1 H1 Hn c1 v d l1 ok1 r1 q1 => by
    cases d with
    | bl z =>
      cases r1
      refine ⟨z, rfl, ?_⟩
      cases z with
      | true => exact iteT ⟨as1, H1, c1, R, ok1, q1, fun _ _ _ _ _ _ l2 ok2 r2 q2 => k _ _ _ _ _ _ (l1.trans l2) ok2 r2 q2⟩
      | false => exact iteF (k _ _ _ _ _ _ l1 ok1 (.bl _) q1)
    | _ => exact q1.elim⟩
theorem pd_not (ha : PD X a da) : PD X (.UnaryOp .Not a pos) (dNotV da) :=
  pe_imp (pe_notT ha) fun σ H Q ⟨as, H0, c, R, ok, q, k⟩ => ⟨as, H0, c, _, ok, q, fun as1 H1 Hn c1 v d l1 ok1 r1 ⟨b, e, q1⟩ => ⟨b, truV_of ok1.c.ex r1 e, k _ _ _ _ _ _ l1 ok1 (.bl _) q1⟩⟩
def dIfE (t : DT) (da db : DE) : DE := fun c R => t c fun b c1 => match b with | true => da c1 R | false => db c1 R
/-! ### argument lists, displays -/
def dNil : DA := fun c R => R [] c
def dCons (da : DE) (dr : DA) : DA := fun c R => da c fun x c1 => dr c1 fun xs c2 => R (x :: xs) c2
variable {es : List Expr} {dr : DA}
theorem lift_nil : ∀ σ H Q, liftA K dNil σ H Q → tNil σ H Q := fun σ H Q ⟨as, H0, c, R, ok, q, k⟩ => k _ _ _ _ _ _ .refl ok .nil q
theorem lift_cons {dk : DA} : ∀ σ H Q, liftA K (dCons da dk) σ H Q → tCons (lift K da) (liftA K dk) σ H Q :=
  fun σ H Q ⟨as, H0, c, R, ok, q, k⟩ => ⟨as, H0, c, _, ok, q, fun as1 H1 Hn c1 v d l1 ok1 r1 q1 => ⟨as1, H1, c1, _, ok1, q1, fun as2 H2 Hn2 c2 vs ds l2 ok2 r2 q2 => k _ _ _ _ _ _ (l1.trans l2) ok2 (.cons (r1.mono l2) r2) q2⟩⟩
theorem pda_nil : PDA X [] dNil := pa_imp pa_nil lift_nil
theorem pda_cons (ha : PD X a da) (hr : PDA X es dr) (hs : starEach (a :: es) X.env = (false, eval a X.env) :: starEach es X.env := by rfl) : PDA X (a :: es) (dCons da dr) := pa_imp (pa_cons ha hr hs) lift_cons
def dTup (dr : DA) : DE := fun c R => dr c fun ds c1 => ds.length ≤ sizeLine ∧ R (.tup ds) c1
def dLst (dr : DA) : DE := fun c R => dr c fun ds c1 => ds.length ≤ sizeLine ∧ R (.lst ds) c1
/-- a list that will change -/
def dLstC (dr : DA) : DE := fun c R => dr c fun ds c1 => ds.length ≤ sizeLine ∧ ∀ k, c1.cs k = none → R (.cel k) { c1 with cs := put c1.cs k (.lst ds) }
theorem pd_tup {x1} (h : PDA X es dr) : PD X (.Tuple es x1 pos) (dTup dr) :=
  pe_imp (pe_tup h) fun σ H Q ⟨as, H0, c, R, ok, q, k⟩ => ⟨as, H0, c, _, ok, q, fun as1 H1 Hn c1 vs ds l1 ok1 r1 ⟨z, q1⟩ => ⟨by rw [r1.length]; exact z, fun p hp => by
    obtain ⟨l, ok'⟩ := new_known (o := .tup vs) ok1 hp
    exact k _ _ _ _ _ _ (l1.trans l) ok' (rp_tup l r1) q1⟩⟩
theorem pd_lst (h : PDA X es dr) : PD X (.List es pos) (dLst dr) :=
  pe_imp (pe_lst h) fun σ H Q ⟨as, H0, c, R, ok, q, k⟩ => ⟨as, H0, c, _, ok, q, fun as1 H1 Hn c1 vs ds l1 ok1 r1 ⟨z, q1⟩ => ⟨by rw [r1.length]; exact z, fun p hp => by
    obtain ⟨l, ok'⟩ := new_known (o := .lst vs) ok1 hp
    exact k _ _ _ _ _ _ (l1.trans l) ok' (rp_lst l r1) q1⟩⟩
/-- a new cell -/
theorem new_cell {σ : L2.St} {as : AsM} {H0 H : Hp} {c : Z} {p : Addr} {u : HO} {o : Co} (ok : Ok K as H0 H σ c) (hp : H p = none) (r : RpC K as H0 p u o) :
    ∃ k as', c.cs k = none ∧ Le as H0 as' H0 ∧ Ok K as' H0 (upd H p u) σ { c with cs := put c.cs k o } ∧ Rp K as' H0 (.ref p) (.cel k) := by
  obtain ⟨k, as', h1, h2, h3, h4⟩ := ok.c.cell hp r
  exact ⟨k, as', h1, h2, ⟨h3, ok.e.mono h2⟩, .cel h4⟩
theorem pd_lstC (h : PDA X es dr) : PD X (.List es pos) (dLstC dr) :=
  pe_imp (pe_lst h) fun σ H Q ⟨as, H0, c, R, ok, q, k⟩ => ⟨as, H0, c, _, ok, q, fun as1 H1 Hn c1 vs ds l1 ok1 r1 ⟨z, q1⟩ => ⟨by rw [r1.length]; exact z, fun p hp => by
    obtain ⟨j, as', n, l, ok', r⟩ := new_cell ok1 hp (.lst r1)
    exact k _ _ _ _ _ _ (l1.trans l) ok' r (q1 j n)⟩⟩
end
end DL

namespace DL
open PySem L2

/-! ### built-in functions -/
abbrev DFn := List D → Z → (D → Z → Prop) → Prop
def CallD (K : PySem.W.Frag) (r : List V → Hp → VK → Prop) (f : DFn) : Prop := ∀ as H0 H σ c vs ds R (Q : VK), Ok K as H0 H σ c → RpA K as H0 vs ds → f ds c R →
  (∀ as' H0' H' c' v d, Le as H0 as' H0' → Ok K as' H0' H' σ c' → Rp K as' H0' v d → R d c' → Q v H') → r vs H Q
def dCall (f : DFn) (da : DA) : DE := fun c R => da c fun ds c1 => f ds c1 R
theorem lift_call {K : PySem.W.Frag} {r : List V → Hp → VK → Prop} {f : DFn} {da : DA} (h : CallD K r f) : ∀ σ H Q, lift K (dCall f da) σ H Q → tCB r (liftA K da) σ H Q :=
  fun σ H Q ⟨as, H0, c, R, ok, q, k⟩ => ⟨as, H0, c, _, ok, q, fun as1 H1 Hn1 c1 vs ds l1 ok1 r1 q1 =>
    h as1 H1 Hn1 σ c1 vs ds R Q ok1 r1 q1 fun as2 H2 Hn2 c2 v2 d2 l2 ok2 r2 q2 => k _ _ _ _ _ _ (l1.trans l2) ok2 r2 q2⟩
theorem callR_or {X : Cx} {f : Value} {r r' : List V → Hp → VK → Prop} (h : CallR X f r) (h' : CallR X f r') : CallR X f (fun xs H Q => r xs H Q ∨ r' xs H Q) :=
  fun pins s σ H xs us Q I rx z => z.elim (h pins s σ H xs us Q I rx) (h' pins s σ H xs us Q I rx)
section
variable {X : Cx} {x : Str} {p pos : Pos} {e : Expr} {es : List Expr} {da : DA} {id T : String} {r : List V → Hp → VK → Prop} {f : DFn}
theorem pd_callB (hc : CallR X (.builtin id) r) (hd : CallD X.K r f) (hg : Gl X x) (hm : X.mg x = none) (hv : bootBuiltins x = some (.builtin id)) (ha : PDA X (e :: es) da) (hn : x ≠ "__name__" := by decide) (hdb : (x == ("__debug__" : Str)) = false := by decide)
    (he : starEach (e :: es) X.env = (false, eval e X.env) :: starEach es X.env := by rfl) (hpl : (backTo pos (starEach es X.env)).any (·.1) = false := by rfl) : PD X (.Call (.Name x p) (e :: es) [] pos) (dCall f da) :=
  pe_imp (pe_callB hc hg hm hv ha hn hdb he hpl) (lift_call hd)
theorem pd_callTy (hc : CallR X (.type T) r) (hd : CallD X.K r f) (hg : Gl X x) (hm : X.mg x = none) (hv : bootBuiltins x = some (.type T)) (ha : PDA X (e :: es) da) (hn : x ≠ "__name__" := by decide) (hdb : (x == ("__debug__" : Str)) = false := by decide)
    (he : starEach (e :: es) X.env = (false, eval e X.env) :: starEach es X.env := by rfl) (hpl : (backTo pos (starEach es X.env)).any (·.1) = false := by rfl) : PD X (.Call (.Name x p) (e :: es) [] pos) (dCall f da) :=
  pe_imp (pe_callTy hc hg hm hv ha hn hdb he hpl) (lift_call hd)
end
section
variable {K : PySem.W.Frag} {X : Cx}
theorem rpa1 {as : AsM} {H : Hp} {vs : List V} {d : D} (h : RpA K as H vs [d]) : ∃ v, vs = [v] ∧ Rp K as H v d := by
  cases h with | cons h1 h2 => cases h2; exact ⟨_, rfl, h1⟩
theorem rpa2 {as : AsM} {H : Hp} {vs : List V} {d e : D} (h : RpA K as H vs [d, e]) : ∃ v u, vs = [v, u] ∧ Rp K as H v d ∧ Rp K as H u e := by
  cases h with | cons h1 h2 => obtain ⟨u, rfl, h3⟩ := rpa1 h2; exact ⟨_, u, rfl, h1, h3⟩
def fAbs : DFn := fun ds c R => match ds with | [.int i] => R (.int (if i < 0 then -i else i)) c | _ => False
theorem callD_abs : CallD K (fun xs H Q => ∃ i, xs = [V.int i] ∧ Q (.int (if i < 0 then -i else i)) H) fAbs := by
  intro as H0 H σ c vs ds R Q ok r h k
  unfold fAbs at h
  split at h
  · obtain ⟨v, rfl, r1⟩ := rpa1 r; cases r1; exact ⟨_, rfl, k _ _ _ _ _ _ .refl ok (.int _) h⟩
  · exact h.elim
def fMax : DFn := fun ds c R => match ds with | [.int i, .int j] => R (.int (if j > i then j else i)) c | _ => False
theorem callD_max : CallD K (fun xs H Q => ∃ i j, xs = [V.int i, V.int j] ∧ Q (.int (if j > i then j else i)) H) fMax := by
  intro as H0 H σ c vs ds R Q ok r h k
  unfold fMax at h
  split at h
  · obtain ⟨v, u, rfl, r1, r2⟩ := rpa2 r; cases r1; cases r2; exact ⟨_, _, rfl, k _ _ _ _ _ _ .refl ok (.int _) h⟩
  · exact h.elim
def fMin : DFn := fun ds c R => match ds with | [.int i, .int j] => R (.int (if j < i then j else i)) c | _ => False
theorem callD_min : CallD K (fun xs H Q => ∃ i j, xs = [V.int i, V.int j] ∧ Q (.int (if j < i then j else i)) H) fMin := by
  intro as H0 H σ c vs ds R Q ok r h k
  unfold fMin at h
  split at h
  · obtain ⟨v, u, rfl, r1, r2⟩ := rpa2 r; cases r1; cases r2; exact ⟨_, _, rfl, k _ _ _ _ _ _ .refl ok (.int _) h⟩
  · exact h.elim
def fInt : DFn := fun ds c R => match ds with | [.int i] => R (.int i) c | [.bl b] => R (.int (if b then 1 else 0)) c | _ => False
theorem callD_int : CallD K (fun xs H Q => (∃ i, xs = [V.int i] ∧ Q (.int i) H) ∨ ∃ k, xs = [V.bl k] ∧ Q (.int (if k then 1 else 0)) H) fInt := by
  intro as H0 H σ c vs ds R Q ok r h k
  unfold fInt at h
  split at h
  · obtain ⟨v, rfl, r1⟩ := rpa1 r; cases r1; exact .inl ⟨_, rfl, k _ _ _ _ _ _ .refl ok (.int _) h⟩
  · obtain ⟨v, rfl, r1⟩ := rpa1 r; cases r1; exact .inr ⟨_, rfl, k _ _ _ _ _ _ .refl ok (.int _) h⟩
  · exact h.elim
/-- len -/
def fLen : DFn := fun ds c R => match ds with
  | [.lst xs] => R (.int (xs.length : Int)) c | [.slst xs] => R (.int (xs.length : Int)) c | [.tup xs] => R (.int (xs.length : Int)) c | [.dic xs] => R (.int (xs.length : Int)) c
  | [.str s] => s.length ≤ sizeLine ∧ R (.int (s.length : Int)) c
  | [.cel k] => ∃ xs, c.cs k = some (.lst xs) ∧ R (.int (xs.length : Int)) c
  | _ => False
theorem RpK.length {as : AsM} {H : Hp} : ∀ {ds : List (Key × D)} {vs : List (Key × V)}, RpK K as H vs ds → vs.length = ds.length
  | [], _, h => by cases h; rfl
  | _ :: _, _, h => by cases h with | cons h1 h2 => exact congrArg Nat.succ (RpK.length h2)
/-- what a cell of a list is in the heap -/
theorem cell_lst {as : AsM} {H0 H : Hp} {σ : L2.St} {c : Z} {k : Nat} {ds : List D} {v : V} (ok : Ok K as H0 H σ c) (r : Rp K as H0 v (.cel k)) (h : c.cs k = some (.lst ds)) : ∃ p vs, v = .ref p ∧ as k = some p ∧ H p = some (.lst vs) ∧ RpA K as H0 vs ds := by
  cases r with
  | cel e =>
    obtain ⟨p', u, h1, h2, h3, h4⟩ := ok.c.cel k _ h
    rw [e] at h1; cases h1
    cases h4 with
    | lst h5 => exact ⟨_, _, rfl, e, h3, h5⟩
def rLen3 (K : PySem.W.Frag) : List V → Hp → VK → Prop := fun xs H Q => (∃ p ys, xs = [V.ref p] ∧ (SqL K H p ys ∨ SqT K H p ys) ∧ Q (.int ys.length) H) ∨ (∃ z, xs = [V.str z] ∧ z.length ≤ sizeLine ∧ Q (.int z.length) H) ∨ (∃ a kvs, xs = [V.ref a] ∧ Rd H a (.dK kvs) ∧ Q (.int kvs.length) H)
theorem call_lenR : CallR X (.builtin "len") (fun xs H Q => ∃ a kvs, xs = [V.ref a] ∧ Rd H a (.dK kvs) ∧ Q (.int kvs.length) H) := by
  intro pins s σ H xs us Q I r ⟨a, kvs, e, rd, q⟩
  subst e
  obtain ⟨u, rfl, rv⟩ := vals1 r
  cases rv
  exact d_len I rd fun t s' J => ⟨.int kvs.length, _, J, ⟨t, rfl⟩, q⟩
theorem call_len3 : CallR X (.builtin "len") (rLen3 X.K) := callR_or call_len_seq (callR_or call_len_str call_lenR)
theorem callD_len : CallD K (rLen3 K) fLen := by
  intro as H0 H σ c vs ds R Q ok r h k
  unfold fLen at h
  split at h
  · obtain ⟨v, rfl, r1⟩ := rpa1 r
    cases r1 with | lst g1 g2 => exact .inl ⟨_, _, rfl, .inl (SqL.of (ok.c.ex _ _ g1)), by rw [g2.length]; exact k _ _ _ _ _ _ .refl ok (.int _) h⟩
  · obtain ⟨v, rfl, r1⟩ := rpa1 r
    cases r1 with | slst g1 g2 => exact .inl ⟨_, _, rfl, .inl (seqL_mono ok.c.ex g1), by rw [g2.length]; exact k _ _ _ _ _ _ .refl ok (.int _) h⟩
  · obtain ⟨v, rfl, r1⟩ := rpa1 r
    cases r1 with | tup g1 g2 => exact .inl ⟨_, _, rfl, .inr (seqT_mono ok.c.ex g1), by rw [g2.length]; exact k _ _ _ _ _ _ .refl ok (.int _) h⟩
  · obtain ⟨v, rfl, r1⟩ := rpa1 r
    cases r1 with | dic g1 g2 => exact .inr (.inr ⟨_, _, rfl, .inr ⟨_, ok.c.ex _ _ g1⟩, by rw [g2.length]; exact k _ _ _ _ _ _ .refl ok (.int _) h⟩)
  · obtain ⟨v, rfl, r1⟩ := rpa1 r
    cases r1; exact .inr (.inl ⟨_, rfl, h.1, k _ _ _ _ _ _ .refl ok (.int _) h.2⟩)
  · obtain ⟨v, rfl, r1⟩ := rpa1 r
    obtain ⟨xs, h1, h2⟩ := h
    obtain ⟨p, us, rfl, _, g3, g4⟩ := cell_lst ok r1 h1
    exact .inl ⟨_, _, rfl, .inl (SqL.of g3), by rw [g4.length]; exact k _ _ _ _ _ _ .refl ok (.int _) h2⟩
  · exact h.elim
/-- sum of ints -/
def intsOf : List D → Option (List Int)
  | [] => some []
  | .int i :: ds => (intsOf ds).map (i :: ·)
  | _ => none
theorem intsOf_rp {as : AsM} {H : Hp} : ∀ {ds : List D} {vs : List V} {ns : List Int}, RpA K as H vs ds → intsOf ds = some ns → vs = ns.map V.int
  | [], _, ns, h, e => by cases h; cases e; rfl
  | d :: ds, _, ns, h, e => by
    cases h with
    | cons h1 h2 =>
      cases d with
      | int i =>
        cases h1
        cases q : intsOf ds with
        | none =>
          have e' : (intsOf ds).map (i :: ·) = some ns := e
          rw [q] at e'; cases e'
        | some ms =>
          have e' : (intsOf ds).map (i :: ·) = some ns := e
          rw [q] at e'; cases e'
          rw [intsOf_rp h2 q]; rfl
      | _ => cases e
@[simp] theorem intsOf_map (ns : List Int) : intsOf (ns.map D.int) = some ns := by
  induction ns with
  | nil => rfl
  | cons n ns ih => show (intsOf (ns.map D.int)).map (n :: ·) = _; rw [ih]; rfl
def listD : D → Option (List D) | .lst ds => some ds | .slst ds => some ds | _ => none
theorem listD_rp {as : AsM} {H0 H : Hp} {v : V} {d : D} {ds : List D} (e : ∀ a o, H0 a = some o → H a = some o) (r : Rp K as H0 v d) (h : listD d = some ds) : ∃ a vs, v = .ref a ∧ SqL K H a vs ∧ RpA K as H0 vs ds := by
  cases r with
  | lst h1 h2 => cases h; exact ⟨_, _, rfl, SqL.of (e _ _ h1), h2⟩
  | slst h1 h2 => cases h; exact ⟨_, _, rfl, seqL_mono e h1, h2⟩
  | _ => cases h
def fSum : DFn := fun ds c R => ∃ d xs ns, ds = [d] ∧ listD d = some xs ∧ intsOf xs = some ns ∧ R (.int ns.sum) c
theorem callD_sum : CallD K (rSum K) fSum := by
  intro as H0 H σ c vs ds R Q ok r ⟨d, xs, ns, e, h1, h2, h3⟩ k
  subst e
  obtain ⟨v, rfl, r1⟩ := rpa1 r
  obtain ⟨a, us, rfl, g1, g2⟩ := listD_rp ok.c.ex r1 h1
  have e := intsOf_rp g2 h2
  subst e
  exact ⟨a, ns, rfl, g1, k _ _ _ _ _ _ .refl ok (.int _) h3⟩

/-! ### isinstance against built-in types -/
def tyN : D → Option String
  | .non => some "NoneType" | .bl _ => some "bool" | .int _ => some "int" | .str _ => some "str" | .lst _ => some "list" | .slst _ => some "list" | .tup _ => some "tuple" | .dic _ => some "dict" | _ => none
def fIsi (n : String) : DFn := fun ds c R => match ds with | [x, .ty m] => m = n ∧ ∃ t b, tyN x = some t ∧ kitB t n = some b ∧ R (.bl b) c | _ => False
theorem tyx_of {as : AsM} {H0 H : Hp} {v : V} {d : D} {t : String} (e : ∀ a o, H0 a = some o → H a = some o) (r : Rp K as H0 v d) (h : tyN d = some t) : TyX K H v (.type t) := by
  cases r with
  | non => cases h; exact .base .non
  | bl b => cases h; exact .base (.bl _)
  | int i => cases h; exact .base (.int _)
  | str s => cases h; exact .base (.str _)
  | lst h1 h2 => cases h; exact .base (.lst (e _ _ h1))
  | slst h1 h2 =>
    cases h
    rcases h1 with (h1 | ⟨o, h1⟩) | ⟨o, its, n, h1, h2, _⟩
    · exact .base (.lst (e _ _ h1))
    · exact .base (.frz (e _ _ h1))
    · exact .kList h1 h2
  | tup h1 h2 =>
    cases h
    rcases h1 with (h1 | ⟨o, h1⟩) | ⟨o, its, n, h1, h2, _⟩
    · exact .base (.tup (e _ _ h1))
    · exact .fTuple (e _ _ h1)
    · exact .kTuple h1 h2
  | dic h1 h2 => cases h; exact .fDict (e _ _ h1)
  | _ => cases h
theorem callD_isi {n : String} : CallD K (rIsi K) (fIsi n) := by
  intro as H0 H σ c vs ds R Q ok r h k
  unfold fIsi at h
  split at h
  · obtain ⟨v, u, rfl, r1, r2⟩ := rpa2 r
    obtain ⟨e, t, b, h1, h2, h3⟩ := h
    subst e
    cases r2
    exact ⟨v, _, _, _, b, rfl, .ty _, tyx_of ok.c.ex r1 h1, kit_ty h2, k _ _ _ _ _ _ .refl ok (.bl _) h3⟩
  · exact h.elim
end

/-! ### subscripts -/
section
variable {K : PySem.W.Frag} {X : Cx} {a b : Expr} {da db : DE} {pos : Pos}
def lookD (kvs : List (Key × D)) (k : Key) : Option D := (kvs.find? fun kv => decide (kv.1 = k)).map (·.2)
theorem lookD_rp {as : AsM} {H : Hp} {k : Key} : ∀ {ds : List (Key × D)} {vs : List (Key × V)} {d : D}, RpK K as H vs ds → lookD ds k = some d → ∃ v, valV vs k = some v ∧ Rp K as H v d
  | [], _, _, h, e => by cases e
  | (j, x) :: ds, _, d, h, e => by
    cases h with
    | cons h1 h2 =>
      by_cases q : j = k
      · subst q
        have : lookD ((j, x) :: ds) j = some x := by simp [lookD, List.find?_cons]
        rw [this] at e; cases e
        exact ⟨_, valV_pos rfl, h1⟩
      · have e1 : lookD ((j, x) :: ds) k = lookD ds k := by simp [lookD, List.find?_cons, q]
        rw [e1] at e
        obtain ⟨v, g1, g2⟩ := lookD_rp h2 e
        exact ⟨v, by rw [valV_neg q]; exact g1, g2⟩
def dIxF : DF := fun x y c R => match x, y with
  | .lst ds, .int i => ∃ d, atI ds i = some d ∧ R d c
  | .slst ds, .int i => ∃ d, atI ds i = some d ∧ R d c
  | .tup ds, .int i => ∃ d, atI ds i = some d ∧ R d c
  | .cel k, .int i => ∃ ds d, c.cs k = some (.lst ds) ∧ atI ds i = some d ∧ R d c
  | .str s, .int i => ∃ ch, s.length ≤ sizeLine ∧ atI s.cps.toList i = some ch ∧ R (.str ⟨#[ch]⟩) c
  | .dic kvs, .int i => ∃ d, lookD kvs (.inl i) = some d ∧ R d c
  | .dic kvs, .str s => ∃ d, lookD kvs (.inr s) = some d ∧ R d c
  | _, _ => False
theorem atI_rp {as : AsM} {H : Hp} {vs : List V} {ds : List D} {i : Int} {d : D} (r : RpA K as H vs ds) (h : atI ds i = some d) : ∃ v, atI vs i = some v ∧ Rp K as H v d := by
  unfold atI at h ⊢
  rw [r.length]
  cases q : ixN ds.length i with
  | none => rw [q] at h; cases h
  | some j => rw [q] at h; exact r.get h
def rIxDic : R2 := fun x y H Q => ∃ a v, x = .ref a ∧ DGet H a y (some v) ∧ Q v H
theorem ix_dic (hu : X.A.units + 1 < cLine) : IxR X rIxDic := by
  intro value slice pins s σ H x y v u Q I rx ry ⟨a, z, e, g, q⟩ hs
  subst e
  cases rx
  exact PyProof.Rows.tail_any (dict_typeIs I g) PySem.F.slot_dict_getitem.lookup (d_getItem hu I g ry fun w' s3 I3 rw' => ⟨z, H, I3, rw', q⟩) hs
def rIx4 (K : PySem.W.Frag) : R2 := fun x y H Q => rIx K x y H Q ∨ rIxDic x y H Q
theorem opD_ix : OpD K (rIx4 K) dIxF := by
  intro as H0 H σ c v1 v2 d1 d2 R Q ok r1 r2 h k
  unfold dIxF at h
  split at h
  · obtain ⟨d, h1, h2⟩ := h
    cases r2
    cases r1 with
    | lst g1 g2 =>
      obtain ⟨v, e1, e2⟩ := atI_rp g2 h1
      exact .inl (.inl ⟨_, _, _, v, rfl, rfl, SqL.of (ok.c.ex _ _ g1), e1, k _ _ _ _ _ _ .refl ok e2 h2⟩)
  · obtain ⟨d, h1, h2⟩ := h
    cases r2
    cases r1 with
    | slst g1 g2 =>
      obtain ⟨v, e1, e2⟩ := atI_rp g2 h1
      exact .inl (.inl ⟨_, _, _, v, rfl, rfl, seqL_mono ok.c.ex g1, e1, k _ _ _ _ _ _ .refl ok e2 h2⟩)
  · obtain ⟨d, h1, h2⟩ := h
    cases r2
    cases r1 with
    | tup g1 g2 =>
      obtain ⟨v, e1, e2⟩ := atI_rp g2 h1
      exact .inl (.inr (.inl ⟨_, _, _, v, rfl, rfl, seqT_mono ok.c.ex g1, e1, k _ _ _ _ _ _ .refl ok e2 h2⟩))
  · obtain ⟨ds, d, h0, h1, h2⟩ := h
    cases r2
    obtain ⟨p, us, rfl, _, g3, g4⟩ := cell_lst ok r1 h0
    obtain ⟨v, e1, e2⟩ := atI_rp g4 h1
    exact .inl (.inl ⟨_, _, _, v, rfl, rfl, SqL.of g3, e1, k _ _ _ _ _ _ .refl ok e2 h2⟩)
  · obtain ⟨ch, h0, h1, h2⟩ := h
    cases r1; cases r2
    exact .inl (.inr (.inr ⟨_, _, ch, rfl, rfl, h0, h1, k _ _ _ _ _ _ .refl ok (.str _) h2⟩))
  · rename_i kvs i
    obtain ⟨d, h1, h2⟩ := h
    cases r2
    cases r1 with
    | dic g1 g2 =>
      obtain ⟨v, e1, e2⟩ := lookD_rp g2 h1
      have g : DGet H _ (kV (Sum.inl i)) _ := .inl ⟨_, _, .inr ⟨_, ok.c.ex _ _ g1⟩, rfl, rfl⟩
      rw [e1] at g
      exact .inr ⟨_, v, rfl, g, k _ _ _ _ _ _ .refl ok e2 h2⟩
  · rename_i kvs i
    obtain ⟨d, h1, h2⟩ := h
    cases r2
    cases r1 with
    | dic g1 g2 =>
      obtain ⟨v, e1, e2⟩ := lookD_rp g2 h1
      have g : DGet H _ (kV (Sum.inr i)) _ := .inl ⟨_, _, .inr ⟨_, ok.c.ex _ _ g1⟩, rfl, rfl⟩
      rw [e1] at g
      exact .inr ⟨_, v, rfl, g, k _ _ _ _ _ _ .refl ok e2 h2⟩
  · exact h.elim
theorem pd_ix (hu : X.A.units + 1 < cLine) (ha : PD X a da) (hb : PD X b db) (hs : PlainIx b) : PD X (.Subscript a b pos) (dBin dIxF da db) := pe_imp (pe_ix (ix_seq.or (ix_dic hu)) ha hb hs) (lift_op opD_ix)

/-! #### slices -/
abbrev DO := Z → (Option Int → Z → Prop) → Prop
def liftO (K : PySem.W.Frag) (do_ : DO) : TO := fun σ H Q => ∃ as H0 c R, Ok K as H0 H σ c ∧ do_ c R ∧ ∀ as' H0' H' c' o, Le as H0 as' H0' → Ok K as' H0' H' σ c' → R o c' → Q o H'
def dNoPart : DO := fun c R => R none c
def dPart (da : DE) : DO := fun c R => da c fun x c1 => match x with | .int i => R (some i) c1 | _ => False
theorem po_imp {e : Option Expr} {t t' : TO} (h : PO X e t) (i : ∀ σ H Q, t' σ H Q → t σ H Q) : PO X e t' := ⟨fun pins s σ H Q I q => h.run pins s σ H Q I (i σ H Q q)⟩
abbrev PDO (X : Cx) (e : Option Expr) (d : DO) : Prop := PO X e (liftO X.K d)
theorem pdo_none : PDO X none dNoPart := po_imp po_none fun σ H Q ⟨as, H0, c, R, ok, q, k⟩ => k _ _ _ _ _ .refl ok q
theorem pdo_some (ha : PD X a da) : PDO X (some a) (dPart da) := po_imp (po_some ha) fun σ H Q ⟨as, H0, c, R, ok, q, k⟩ => ⟨as, H0, c, _, ok, q, fun as1 H1 Hn c1 v d l1 ok1 r1 q1 => by
  cases d with
  | int i => cases r1; exact ⟨i, rfl, k _ _ _ _ _ l1 ok1 q1⟩
  | _ => exact q1.elim⟩
def cutD (xs : List D) (lo hi : Option Int) : List D := (xs.drop (HT.sIx xs.length 0 lo)).take (HT.sIx xs.length xs.length hi - HT.sIx xs.length 0 lo)
theorem cut_rp {as : AsM} {H : Hp} {vs : List V} {ds : List D} {lo hi : Option Int} (r : RpA K as H vs ds) : RpA K as H (cutV vs lo hi) (cutD ds lo hi) := by
  unfold cutV cutD
  rw [r.length]
  exact (r.drop _).take _
def dSlF : D → Option Int → Option Int → Z → (D → Z → Prop) → Prop := fun x lo hi c R => match x with
  | .lst ds => R (.lst (cutD ds lo hi)) c
  | .slst ds => R (.lst (cutD ds lo hi)) c
  | .tup ds => ¬ (HT.sIx ds.length 0 lo = 0 ∧ HT.sIx ds.length ds.length hi = ds.length) ∧ R (.tup (cutD ds lo hi)) c
  | .str s => s.length ≤ sizeLine ∧ R (.str (cutS s lo hi)) c
  | _ => False
def dSl (da : DE) (dl dh : DO) : DE := fun c R => da c fun x c1 => dl c1 fun lo c2 => dh c2 fun hi c3 => dSlF x lo hi c3 R
theorem pd_slice {lo hi : Option Expr} {dl dh : DO} {p2 : Pos} (ha : PD X a da) (hl : PDO X lo dl) (hh : PDO X hi dh) : PD X (.Subscript a (.Slice lo hi none p2) pos) (dSl da dl dh) :=
  pe_imp (pe_slice (sl_list.or (sl_tup.or sl_str)) ha hl hh) fun σ H Q ⟨as, H0, c, R, ok, q, k⟩ => ⟨as, H0, c, _, ok, q, fun as1 H1 Hn c1 v d l1 ok1 r1 q1 => ⟨as1, H1, c1, _, ok1, q1, fun as2 H2 Hn2 c2 lo l2 ok2 q2 => ⟨as2, H2, c2, _, ok2, q2, fun as3 H3 Hn3 c3 hi l3 ok3 q3 => by
    have r3 := r1.mono (l2.trans l3)
    have l := (l1.trans l2).trans l3
    unfold dSlF at q3
    split at q3
    · cases r3 with
      | lst g1 g2 =>
        refine .inl ⟨_, _, rfl, SqL.of (ok3.c.ex _ _ g1), fun p hp => ?_⟩
        obtain ⟨l', ok'⟩ := new_known (o := .lst _) ok3 hp
        exact k _ _ _ _ _ _ (l.trans l') ok' (rp_lst l' (cut_rp g2)) q3
    · cases r3 with
      | slst g1 g2 =>
        refine .inl ⟨_, _, rfl, seqL_mono ok3.c.ex g1, fun p hp => ?_⟩
        obtain ⟨l', ok'⟩ := new_known (o := .lst _) ok3 hp
        exact k _ _ _ _ _ _ (l.trans l') ok' (rp_lst l' (cut_rp g2)) q3
    · cases r3 with
      | tup g1 g2 =>
        refine .inr (.inl ⟨_, _, rfl, seqT_mono ok3.c.ex g1, by rw [g2.length]; exact q3.1, fun p hp => ?_⟩)
        obtain ⟨l', ok'⟩ := new_known (o := .tup _) ok3 hp
        exact k _ _ _ _ _ _ (l.trans l') ok' (rp_tup l' (cut_rp g2)) q3.2
    · cases r3
      exact .inr (.inr ⟨_, rfl, q3.1, k _ _ _ _ _ _ l ok3 (.str _) q3.2⟩)
    · exact q3.elim⟩⟩⟩
end

/-! ### statements -/
section
variable {K : PySem.W.Frag} {X : Cx} {e tg : Expr} {st : Stmt} {rest : List Stmt} {da : DE} {pos : Pos} {s1 s2 : DS}
def sNext : DS := fun DD c => DD.nx c
def sSeq (s t : DS) : DS := fun DD c => s { DD with nx := t DD } c
def sAsg (da : DE) (i : Nat) : DS := fun DD c => da c fun d c1 => DD.nx { c1 with env := c1.env.set i (some d) }
def sRet (da : DE) : DS := fun DD c => da c fun d c1 => DD.rt d c1.cs
def sRetN : DS := fun DD c => DD.rt .non c.cs
def sDrop (da : DE) : DS := fun DD c => da c fun _ c1 => DD.nx c1
def sIf (t : DT) (s u : DS) : DS := fun DD c => t c fun b c1 => match b with | true => s DD c1 | false => u DD c1
def sBreak : DS := fun DD c => DD.bk c
def sCont : DS := fun DD c => DD.ct c
theorem pdb_nil : PDB X [] sNext := fun W tk => pss_imp pss_nil fun Dn σ H ⟨as, H0, c, DD, ok, q, k⟩ => k.nx _ _ _ _ _ .refl ok q
theorem pdb_one (h : PDS X st s1) : PDB X [st] s1 := fun W tk => pss_imp (pss_one (h W tk)) fun _ _ _ q => q
theorem pdb_cons (h : PDS X st s1) (g : PDB X rest s2) : PDB X (st :: rest) (sSeq s1 s2) := fun W tk => pss_imp (pss_cons (h W tk) (g W tk)) fun Dn σ H ⟨as, H0, c, DD, ok, q, k⟩ => ⟨as, H0, c, _, ok, q, ⟨fun as1 H1 Hn σ1 c1 l1 ok1 q1 => ⟨as1, H1, c1, DD, ok1, q1, k.mono l1⟩, k.bk, k.ct, k.rt, k.xx⟩⟩
theorem pds_ret (h : PD X e da) : PDS X (.Return (some e) pos) (sRet da) := fun W tk => ps_imp (ps_ret h) fun Dn σ H ⟨as, H0, c, DD, ok, q, k⟩ => ⟨as, H0, c, _, ok, q, fun as1 H1 Hn c1 v d l1 ok1 r1 q1 => k.rt _ _ _ _ _ _ l1 ok1.c r1 q1⟩
theorem pds_expr (h : PD X e da) (hs : swapsWith e none pos.line X.env = pure false := by rfl) : PDS X (.Expr e pos) (sDrop da) := fun W tk => ps_imp (ps_expr h hs) fun Dn σ H ⟨as, H0, c, DD, ok, q, k⟩ => ⟨as, H0, c, _, ok, q, fun as1 H1 Hn c1 v d l1 ok1 r1 q1 => k.nx _ _ _ _ _ l1 ok1 q1⟩
theorem pds_if {t : DT} {a b : List Stmt} (ht : PDT X e t) (ha : PDB X a s1) (hb : PDB X b s2) : PDS X (.If e a b pos) (sIf t s1 s2) := fun W tk => ps_imp (ps_if ht (ha W tk) (hb W tk)) fun Dn σ H ⟨as, H0, c, DD, ok, q, k⟩ => ⟨as, H0, c, _, ok, q, fun as1 H1 Hn c1 z l1 ok1 q1 => by
    cases z with
    | true => exact iteT ⟨as1, H1, c1, DD, ok1, q1, k.mono l1⟩
    | false => exact iteF ⟨as1, H1, c1, DD, ok1, q1, k.mono l1⟩⟩
theorem pds_set {i : Nat} {x : Str} {pos' : Pos} (hN : X.N.Nodup) (hi : X.N[i]? = some x) (hx : Loc X.env.scope x) (h : PD X e da) (hs : swapsWith e (some (.Name x pos')) pos.line X.env = pure false := by rfl)
    (hf : X.fn x = true ∨ X.env.scope.names.lookup x = some .local := by first | exact .inl rfl | exact .inr rfl | assumption) : PDS X (.Assign [.Name x pos'] e pos) (sAsg da i) := fun W tk => ps_imp (ps_set hN hi hx h hs hf) fun Dn σ H ⟨as, H0, c, DD, ok, q, k⟩ => ⟨as, H0, c, _, ok, q, fun as1 H1 Hn c1 v d l1 ok1 r1 q1 =>
    k.nx _ _ _ _ _ l1 (⟨ok1.c, ok1.e.set i r1⟩ : Ok X.K as1 H1 Hn (σ.set i (some v)) { c1 with env := c1.env.set i (some d) }) q1⟩
/-- targets -/
abbrev DG := D → Z → (Z → Prop) → Prop
def liftG (K : PySem.W.Frag) (dg : DG) : TG := fun v σ H Q => ∃ (as : AsM) (H0 : Hp) (c : Z) (d : D) (R : Z → Prop), Ok K as H0 H σ c ∧ Rp K as H0 v d ∧ dg d c R ∧ ∀ (as' : AsM) (H0' H' : Hp) (σ' : L2.St) (c' : Z), Le as H0 as' H0' → Ok K as' H0' H' σ' c' → R c' → Q σ' H'
def pg_imp {e : Expr} {t t' : TG} (h : PG X e t) (i : ∀ v σ H Q, t' v σ H Q → t v σ H Q) : PG X e t' := ⟨fun pins s σ H x u Q I r q => h.run pins s σ H x u Q I r (i _ _ _ _ q)⟩
abbrev PDG (X : Cx) (e : Expr) (dg : DG) : Prop := PG X e (liftG X.K dg)
def gNm (i : Nat) : DG := fun d c R => R { c with env := c.env.set i (some d) }
theorem pdg_name {i : Nat} {x : Str} (hN : X.N.Nodup) (hi : X.N[i]? = some x) (hx : Loc X.env.scope x) (hf : X.fn x = true ∨ X.env.scope.names.lookup x = some .local := by first | exact .inl rfl | exact .inr rfl | assumption) : PDG X (.Name x pos) (gNm i) :=
  pg_imp (pg_name hN hi hx hf) fun v σ H Q ⟨as, H0, c, d, R, ok, r, q, k⟩ => k _ _ _ _ _ .refl (⟨ok.c, ok.e.set i r⟩ : Ok X.K as H0 H (σ.set i (some v)) { c with env := c.env.set i (some d) }) q
def gList : List DG → List D → Z → (Z → Prop) → Prop
  | [], [], c, R => R c
  | g :: gs, d :: ds, c, R => g d c fun c1 => gList gs ds c1 R
  | _, _, _, _ => False
def gTp (gs : List DG) : DG := fun d c R => ∃ ds, d = .tup ds ∧ ds.length = gs.length ∧ gList gs ds c R
def liftGs (K : PySem.W.Frag) (gs : List DG) : TGs := fun vs σ H Q => ∃ (as : AsM) (H0 : Hp) (c : Z) (ds : List D) (R : Z → Prop), Ok K as H0 H σ c ∧ RpA K as H0 vs ds ∧ gList gs ds c R ∧ ∀ (as' : AsM) (H0' H' : Hp) (σ' : L2.St) (c' : Z), Le as H0 as' H0' → Ok K as' H0' H' σ' c' → R c' → Q σ' H'
def pgs_imp {e : List Expr} {t t' : TGs} (h : PGs X e t) (i : ∀ v σ H Q, t' v σ H Q → t v σ H Q) : PGs X e t' := ⟨fun pins s σ H x u Q I r q => h.run pins s σ H x u Q I r (i _ _ _ _ q)⟩

theorem pdgs_nil : PGs X [] (liftGs X.K []) := pgs_imp pgs_nil fun v σ H Q ⟨as, H0, c, ds, R, ok, r, q, k⟩ => by
  cases ds with
  | nil => cases r; exact ⟨rfl, k _ _ _ _ _ .refl ok q⟩
  | cons d ds => exact q.elim
theorem pdgs_cons {es : List Expr} {g : DG} {gs : List DG} (h1 : PDG X e g) (h2 : PGs X es (liftGs X.K gs)) (hs : (assignEach (e :: es) X.env).map (·.2) = assign e X.env :: (assignEach es X.env).map (·.2) := by rfl) : PGs X (e :: es) (liftGs X.K (g :: gs)) :=
  pgs_imp (pgs_cons h1 h2 hs) fun v σ H Q ⟨as, H0, c, ds, R, ok, r, q, k⟩ => by
    cases ds with
    | nil => exact q.elim
    | cons d ds =>
      cases r with
      | cons r1 r2 =>
        exact ⟨_, _, rfl, as, H0, c, d, _, ok, r1, q, fun as1 H1 Hn σ1 c1 l1 ok1 q1 => ⟨as1, H1, c1, ds, R, ok1, r2.mono l1, q1, fun _ _ _ _ _ l2 ok2 q2 => k _ _ _ _ _ (l1.trans l2) ok2 q2⟩⟩
theorem pdg_tup {es : List Expr} {kk : Nat} {gs : List DG} (hc : X.calm = true) (h : PGs X es (liftGs X.K gs)) (hn : (assignEach es X.env).length = gs.length := by rfl) (hst : (assignEach es X.env).findIdx? (·.1) = none := by rfl) : PDG X (.Tuple es kk pos) (gTp gs) :=
  pg_imp (pg_tup hc h hn hst) fun v σ H Q ⟨as, H0, c, d, R, ok, r, ⟨ds, e, hl, q⟩, k⟩ => by
    subst e
    cases r with
    | tup g1 g2 => exact ⟨_, _, rfl, seqT_mono ok.c.ex g1, by rw [g2.length]; exact hl, as, H0, c, ds, R, ok, g2, q, k⟩
/-- o[i] = v, o a list that changes -/
def gIx (do_ di : DE) : DG := fun v c R => do_ c fun o c1 => di c1 fun i c2 => match o, i with
  | .cel k, .int j => ∃ ds n, c2.cs k = some (.lst ds) ∧ ixN ds.length j = some n ∧ R { c2 with cs := put c2.cs k (.lst (ds.set n v)) }
  | _, _ => False
theorem cell_set {as : AsM} {H0 H : Hp} {σ : L2.St} {c : Z} {k : Nat} {p : Addr} {u : HO} {o o0 : Co} (ok : Ok K as H0 H σ c) (hk : c.cs k = some o0) (hp : as k = some p) (r : RpC K as H0 p u o) :
    Ok K as H0 (upd H p u) σ { c with cs := put c.cs k o } := ⟨ok.c.turn hk hp r, ok.e⟩
theorem pdg_ix {o i : Expr} {do_ di : DE} (ho : PD X o do_) (hi : PD X i di)
    (ha : ∀ v, assign (.Subscript o i pos) X.env v = (do
      let ov ← holding [v] (eval o X.env)
      let iv ← holding [v, ov] (eval i X.env)
      standAt pos
      holding [v, ov, iv] (setItem ov iv v)
      release [v, ov, iv] []) := by intro _; rfl) : PDG X (.Subscript o i pos) (gIx do_ di) :=
  pg_imp (pg_sub ho hi set_list ha) fun v σ H Q ⟨as, H0, c, d, R, ok, r, q, k⟩ => ⟨as, H0, c, _, ok, q, fun as1 H1 Hn c1 v1 d1 l1 ok1 r1 q1 => ⟨as1, H1, c1, _, ok1, q1, fun as2 H2 Hn2 c2 v2 d2 l2 ok2 r2 q2 => by
    cases d1 with
    | cel j =>
      cases d2 with
      | int z =>
        obtain ⟨ds, n, e1, e2, q3⟩ := q2
        cases r2
        obtain ⟨p, us, rfl, hp, g3, g4⟩ := cell_lst ok2 (r1.mono l2) e1
        refine ⟨_, _, _, n, rfl, rfl, g3, by rw [g4.length]; exact e2, ?_⟩
        exact k _ _ _ _ _ (l1.trans l2) (cell_set ok2 e1 hp (.lst (g4.set n (r.mono (l1.trans l2))))) q3
      | _ => exact q2.elim
    | _ => cases d2 <;> exact q2.elim⟩⟩
def sAsgG (da : DE) (g : DG) : DS := fun DD c => da c fun d c1 => g d c1 DD.nx
theorem pds_asg {g : DG} (he : PD X e da) (hg : PDG X tg g) (hs : swapsWithSole [tg] e pos.line X.env = pure false := by rfl) (hw : swappedStores [tg] e X.env = pure none := by rfl) (h1 : (assignEach [tg] X.env).map (·.2) = [assign tg X.env] := by rfl) : PDS X (.Assign [tg] e pos) (sAsgG da g) := fun W tk => ps_imp (ps_asg he hg hs hw h1) fun Dn σ H ⟨as, H0, c, DD, ok, q, k⟩ => ⟨as, H0, c, _, ok, q, fun as1 H1 Hn c1 v d l1 ok1 r1 q1 => ⟨as1, H1, c1, d, _, ok1, r1, q1, fun as2 H2 Hn2 σ2 c2 l2 ok2 q2 => k.nx _ _ _ _ _ (l1.trans l2) ok2 q2⟩⟩
/-- a, b = e1, e2 -/
def sPar (i j : Nat) (da : DA) : DS := fun DD c => da c fun ds c1 => match ds with
  | [d1, d2] => DD.nx { c1 with env := (c1.env.set i (some d1)).set j (some d2) }
  | _ => False
theorem pds_par {i j : Nat} {st : Stmt} {dr : DA} (t : PS X st (tPar i j (liftA X.K dr))) : PDS X st (sPar i j dr) :=
  fun W tk => ps_imp t fun Dn σ H ⟨as, H0, c, DD, ok, q, k⟩ => ⟨as, H0, c, _, ok, q, fun as1 H1 Hn c1 vs ds l1 ok1 r1 q1 => by
    match ds, q1 with
    | [d1, d2], q1 =>
      obtain ⟨v, u, rfl, g1, g2⟩ := rpa2 r1
      exact ⟨v, u, rfl, k.nx _ _ _ _ _ l1 (⟨ok1.c, (ok1.e.set i g1).set j g2⟩ : Ok X.K as1 H1 Hn ((σ.set i (some v)).set j (some u)) { c1 with env := (c1.env.set i (some d1)).set j (some d2) }) q1⟩⟩
end

/-! ### loops -/
section
variable {K : PySem.W.Frag} {X : Cx} {e tg : Expr} {body : List Stmt} {da : DE} {pos : Pos} {sb : DS}
/-- what a loop walks: a list of things, told ahead -/
abbrev DI := Z → (List D → Z → Prop) → Prop
def sFor (di : DI) (g : DG) (sb : DS) : DS := fun DD c => di c fun ds c1 => ∃ I : Nat → Z → Prop, I 0 c1 ∧
  (∀ i d c2, ds[i]? = some d → I i c2 → g d c2 fun c3 => sb { DD with nx := I (i + 1), ct := I (i + 1), bk := DD.nx } c3) ∧ ∀ c2, I ds.length c2 → DD.nx c2
/-- W of the low side -/
def lowI (K : PySem.W.Frag) (as : AsM) (H0 : Hp) (I : Z → Prop) (σ : L2.St) (H : Hp) : Prop := ∃ as' H0' c', Le as H0 as' H0' ∧ Ok K as' H0' H σ c' ∧ I c'
def iSeq (da : DE) : DI := fun c R => da c fun d c1 => ∃ ds, listD d = some ds ∧ R ds c1
def iTp (da : DE) : DI := fun c R => da c fun d c1 => ∃ ds, d = .tup ds ∧ R ds c1
def rangeD (lo : Int) (n : Nat) : List D := (List.range n).map fun i : Nat => D.int (lo + (i : Int))
@[simp] theorem rangeD_length {lo : Int} {n : Nat} : (rangeD lo n).length = n := by unfold rangeD; rw [List.length_map, List.length_range]
theorem rangeD_at {lo : Int} {n i : Nat} (h : i < n) : (rangeD lo n)[i]? = some (.int (lo + (i : Int))) := by
  unfold rangeD; rw [List.getElem?_map, List.getElem?_range h]; rfl
theorem rangeD_get {lo : Int} {n i : Nat} {d : D} (h : (rangeD lo n)[i]? = some d) : i < n ∧ d = .int (lo + (i : Int)) := by
  have hi : i < n := by
    rcases Nat.lt_or_ge i n with q | q
    · exact q
    · rw [List.getElem?_eq_none (by rw [rangeD_length]; exact q)] at h; cases h
  rw [rangeD_at hi] at h; cases h; exact ⟨hi, rfl⟩
def iRng1 (da : DA) : DI := fun c R => da c fun ds c1 => match ds with
  | [.int n] => -(2 ^ 62) ≤ n ∧ n < 2 ^ 62 ∧ R (rangeD 0 n.toNat) c1
  | _ => False
def iRng2 (da : DA) : DI := fun c R => da c fun ds c1 => match ds with
  | [.int lo, .int hi] => (-(2 ^ 62) ≤ lo ∧ lo < 2 ^ 62 ∧ -(2 ^ 62) ≤ hi ∧ hi < 2 ^ 62) ∧ R (rangeD lo (hi - lo).toNat) c1
  | _ => False
theorem for_low {mg : Str → Option Value} {W : WX} {dg : DG} {I : Nat → Z → Prop} {DD : DEnds} {Dn : Ends} {as : AsM} {H0 : Hp} {n i : Nat} {v : V} {d : D} {σ : L2.St} {H : Hp} (k : Exits K mg W as H0 DD Dn)
    (st : ∀ c2, I i c2 → dg d c2 fun c3 => sb { DD with nx := I (i + 1), ct := I (i + 1), bk := DD.nx } c3) (h : ∃ as' H0' c', Le as H0 as' H0' ∧ Ok K as' H0' H σ c' ∧ I i c' ∧ Rp K as' H0' v d) :
    liftG K dg v σ H fun σ2 H2 => liftS K mg W sb { Dn with nx := lowI K as H0 (I (i + 1)), ct := lowI K as H0 (I (i + 1)), bk := Dn.nx } σ2 H2 := by
  obtain ⟨as1, H1, c1, l1, ok1, i1, r1⟩ := h
  refine ⟨as1, H1, c1, d, _, ok1, r1, st c1 i1, fun as2 H2 Hn2 σ2 c2 l2 ok2 q2 => ⟨as2, H2, c2, _, ok2, q2, ?_⟩⟩
  have l := l1.trans l2
  exact ⟨fun _ _ _ _ _ l3 ok3 q3 => ⟨_, _, _, l.trans l3, ok3, q3⟩, fun _ _ _ _ _ l3 ok3 q3 => k.nx _ _ _ _ _ (l.trans l3) ok3 q3, fun _ _ _ _ _ l3 ok3 q3 => ⟨_, _, _, l.trans l3, ok3, q3⟩, fun _ _ _ _ _ _ l3 ok3 r3 q3 => k.rt _ _ _ _ _ _ (l.trans l3) ok3 r3 q3, k.xx.mono l⟩
/-- while: a measure that falls -/
def sWhile (t : DT) (sb : DS) : DS := fun DD c => ∃ I : Nat → Z → Prop, (∃ m, I m c) ∧ ∀ m c1, I m c1 → t c1 fun b c2 => match b with
  | true => sb { DD with nx := fun c3 => ∃ m', m' < m ∧ I m' c3, ct := fun c3 => ∃ m', m' < m ∧ I m' c3, bk := DD.nx } c2
  | false => DD.nx c2
end
end DL

namespace DL
open PySem L2

/-! ### defs, where nothing is being written out (guards) -/
structure FnG (P : Program) (w : World) (K : PySem.W.Frag) (mg : Str → Option Value) (base : Heap) (CX : CXT) (k : Nat) (f : Addr) (fd : FuncData) (ps : List Str) (sp : Sp) : Prop where
  len : ∀ vs H Q E, sp vs H Q E → vs.length = ps.length
  run : ∀ (A : Around) (outer : List Env) (s : Shared) (H : Hp) (args : Args) (us : List Value) (vs : List V) (Q : VK) (E : XK), A.guards = some [] → Room k A → Env0 P w K mg base A outer s H → BindsTo s fd args (ps.zip us) → Vals vs us → sp vs H Q E →
    codeAny (model P w) A (.call (.ref f) args) (CR CX outer P w H s Q E) s
theorem FnG.mono {P : Program} {w : World} {K : PySem.W.Frag} {mg : Str → Option Value} {base : Heap} {CX : CXT} {j k : Nat} {f : Addr} {fd : FuncData} {ps : List Str} {sp : Sp} (F : FnG P w K mg base CX j f fd ps sp) (h : j ≤ k) : FnG P w K mg base CX k f fd ps sp :=
  ⟨F.len, fun A outer s H args us vs Q E hg hr => F.run A outer s H args us vs Q E hg (hr.mono h)⟩
section
variable {P : Program} {w : World} {K : PySem.W.Frag} {mg : Str → Option Value} {base : Heap}
theorem fnG_of {CX : CXT} {k : Nat} {f : Addr} {name qual : Str} {params : Arguments} {body : List Stmt} {scope : Scope} {dV kV doc pm cdv ct oc : Value} {an od : Option Addr} {osl : Array (Option Value)} {N ps : List Str} {sp : Sp}
    (lk : K.lookup f = some ⟨oc, od, .func (PySem.W.fnOf name qual params body scope dV kV doc pm an cdv ct), osl⟩) (hcd : PySem.W.codeIn K cdv qual = true) (S : FnScope N ps scope) (len : ∀ vs H Q E, sp vs H Q E → vs.length = ps.length)
    (hbody : ∀ (A : Around) (outer : List Env) (s : Shared) (H : Hp) (vs : List V) (Q : VK) (E : XK), A.guards = some [] → Room k (A.deeper (PyProof.Rows.envOfC qual scope s.heap.objs.size f cdv)) → sp vs H Q E →
      ∃ t, PSs (cxOf CX P w K mg base N qual scope f cdv A outer s H E) body t ∧ t { nx := fun _ H' => Q .non H', rt := Q } (L2.start N vs) H) : FnG P w K mg base CX (k + 1) f (PySem.W.fnOf name qual params body scope dV kV doc pm an cdv ct) ps sp := by
  refine ⟨len, ?_⟩
  intro A outer s H args us vs Q E hg hr e0 hb r hsp
  have same : ∀ b o, base.get? b = some o → s.heap.get? b = some o := fun b o e => (e0.bs b o e).1
  have KX : K.In s.heap := e0.mod.kin.keeps same
  have lim : s.heap.NoLimit := e0.mod.nolimit.keeps same
  have kinds : ∀ y ∈ ps.zip us, scope.names.lookup y.1 = some .local ∨ (scope.names.lookup y.1 = some .cell ∧ ((cellsFrom (s.heap.objs.size + 1) scope.names []).lookup y.1).isSome = true) := by
    rintro ⟨n, v⟩ hy
    rcases S.par n (List.of_mem_zip hy).1 with q | q
    · exact .inl q
    · exact .inr ⟨q, PySem.W.cellsFrom_some _ _ _ (.inl q)⟩
  apply codeAny_call_function hr.depth (KX _ _ lk) rfl S.co S.gen rfl (PySem.W.codeRec_of KX hcd)
  apply hb
  apply wpAny_newFunctionEnv_cells S.kind kinds
  intro env he s1 x
  subst he
  refine ⟨lim.keeps x.toInCall.keep, codeAny_func ?_⟩
  obtain ⟨t, ht, hq⟩ := hbody A outer s H vs Q E hg (hr.deeper _) hsp
  have I := inv_start (CX := CX) (E := E) (outer := outer) (f := f) (cd := cdv) S hr.hd e0 (len _ _ _ _ hsp) r x
  refine wpAny_mono (ht.run [] s1 (L2.start N vs) H _ I hq) (fun fl s' hs => ?_) (fun e s' hs => hs)
  cases fl with
  | ret u => exact let ⟨v, σ', H', J, rv, q⟩ := hs; ⟨v, H', J.os, J.bare, J.base, J.hok, rv, q⟩
  | next => exact let ⟨σ', H', J, q⟩ := hs; ⟨V.non, H', J.os, J.bare, J.base, J.hok, rfl, q⟩
  | brk => exact let ⟨_, _, _, q⟩ := hs; False.elim q
  | cont => exact let ⟨_, _, _, q⟩ := hs; False.elim q
end

/-! ### what a def does, by data -/
abbrev Sem := List D → Cells → (D → Cells → Prop) → Prop
def FnD (K : PySem.W.Frag) (sem : Sem) : Sp := fun vs H Q _ => ∃ as H0 ds cs R, OkC K as H0 H cs ∧ RpA K as H0 vs ds ∧ sem ds cs R ∧
  ∀ as' H0' H' cs' v d, Le as H0 as' H0' → OkC K as' H0' H' cs' → Rp K as' H0' v d → R d cs' → Q v H'
/-- how a call binds: n values by place, keywords named ks -/
structure Bnd (K : PySem.W.Frag) (fd : FuncData) (ps : List Str) (n : Nat) (ks : List Str) (gD : List D → List D → List D) : Prop where
  bd : ∃ g : List Value → List Value → List Value, (∀ (s : Shared) (us ws : List Value), K.In s.heap → us.length = n → ws.length = ks.length → BindsTo s fd ⟨us, ks.zip ws⟩ (ps.zip (g us ws))) ∧
    ∀ {as : AsM} {H : Hp} {vs zs : List V} {us ws : List Value} {ds es : List D}, vs.length = n → zs.length = ks.length → Vals vs us → RpA K as H vs ds → Vals zs ws → RpA K as H zs es → ∃ vs', Vals vs' (g us ws) ∧ RpA K as H vs' (gD ds es)
def dFn (n : Nat) (sem : Sem) (gD : List D → List D → List D) (da : DA) : DE := fun c R => da c fun ds c1 => ds.length = n ∧ sem (gD ds []) c1.cs fun d cs' => R d { c1 with cs := cs' }
def dFnK (n m : Nat) (sem : Sem) (gD : List D → List D → List D) (da dk : DA) : DE := fun c R => da c fun ds c1 => dk c1 fun es c2 => ds.length = n ∧ es.length = m ∧ sem (gD ds es) c2.cs fun d cs' => R d { c2 with cs := cs' }
section
variable {X : Cx} {k n : Nat} {f : Addr} {fd : FuncData} {ps ks : List Str} {sem : Sem} {gD : List D → List D → List D} {x : Str} {p pos : Pos} {e : Expr} {es : List Expr} {kws : List Keyword} {da dk : DA}
theorem run_fnD {pins : List (Addr × Obj)} {σ : L2.St} {H : Hp} {s : Shared} {Q : VK} {us ws : List Value} {vs zs : List V} {as : AsM} {H0 : Hp} {c : Z} {ds es : List D} {R : D → Z → Prop}
    (F : FnG X.prog X.w X.K X.mg X.base CX0 k f fd ps (FnD X.K sem)) (hgd : X.A.guards = some []) (hr : Room k X.A) (hb : Bnd X.K fd ps n ks gD) (I : Inv X pins σ H s) (r : Vals vs us) (rz : Vals zs ws) (ok : Ok X.K as H0 H σ c) (rd : RpA X.K as H0 vs ds) (re : RpA X.K as H0 zs es)
    (l1 : ds.length = n) (l2 : es.length = ks.length) (h : sem (gD ds es) c.cs fun d cs' => R d { c with cs := cs' })
    (q : ∀ as' H0' H' c' v d, Le as H0 as' H0' → Ok X.K as' H0' H' σ c' → Rp X.K as' H0' v d → R d c' → Q v H') : wpAny (model X.prog X.w) X.A (call (.ref f) us (ks.zip ws)) (EP X pins σ Q) X.xe s := by
  obtain ⟨g, to, rel⟩ := hb.bd
  obtain ⟨vs', rv, rd'⟩ := rel (rd.length.trans l1) (re.length.trans l2) r rd rz re
  have sp : FnD X.K sem vs' H Q E0 := ⟨as, H0, _, c.cs, _, ok.c, rd', h, fun as' H0' H' cs' v d l oc rp hq => q as' H0' H' { c with cs := cs' } v d l ⟨oc, ok.e.mono l⟩ rp hq⟩
  refine wpAny_call (codeAny_mono (F.run X.A X.stack s H _ _ vs' Q E0 hgd hr I.env0 (to s us ws I.kIn (by rw [← r.length, rd.length, l1]) (by rw [← rz.length, re.length, l2])) rv sp) fun res s' hq => ?_)
  cases res with
  | error e => exact False.elim hq
  | ok fl =>
    cases fl with
    | ret u => exact I.after hq
    | _ => exact False.elim hq
theorem pd_fn (F : FnG X.prog X.w X.K X.mg X.base CX0 k f fd ps (FnD X.K sem)) (hgd : X.A.guards = some []) (hr : Room k X.A) (hg : Gl X x) (hm : X.mg x = some (.ref f)) (hk : PySem.W.keepIn X.K (.ref f) = true) (hb : Bnd X.K fd ps n [] gD)
    (ha : PDA X (e :: es) da) (hdb : (x == ("__debug__" : Str)) = false := by decide) (he : starEach (e :: es) X.env = (false, eval e X.env) :: starEach es X.env := by rfl) (hpl : (backTo pos (starEach es X.env)).any (·.1) = false := by rfl) :
    PD X (.Call (.Name x p) (e :: es) [] pos) (dFn n sem gD da) := by
  refine ⟨fun pins s σ H Q I ⟨as, H0, c, R, ok, q, kk⟩ => ?_⟩
  refine wpAny_Call_Name_kw (ld_glob I hg hm ?_ hdb)
  have arg : liftA X.K da σ H fun vs H1 => ∃ as1 H01 c1 ds, Le as H0 as1 H01 ∧ Ok X.K as1 H01 H1 σ c1 ∧ RpA X.K as1 H01 vs ds ∧ ds.length = n ∧ sem (gD ds []) c1.cs fun d cs' => R d { c1 with cs := cs' } :=
    ⟨as, H0, c, _, ok, q, fun as1 H1 Hn c1 vs ds l1 ok1 r1 ⟨z1, z2⟩ => ⟨as1, H1, c1, ds, l1, ok1, r1, z1, z2⟩⟩
  refine PySem.W.callWith_K (h₀ := X.base) I.ok.mod.kin hk (thn (ha.run pos pins s σ H _ I arg) fun us s1 ⟨vs, H1, I1, r, as1, H01, c1, ds, l1, ok1, rd, z1, z2⟩ => ⟨I1.kIn, ?_⟩) he hpl
  exact run_fnD (ws := []) F hgd hr hb I1 r .nil ok1 rd .nil z1 rfl z2 fun _ _ _ _ _ _ l ok' rp hq => kk _ _ _ _ _ _ (l1.trans l) ok' rp hq
end
/-! #### bindings -/
section
variable {K : PySem.W.Frag} {fd : FuncData} {ps : List Str}
/-- every parameter is written, by its place -/
theorem Bnd.all (h : Binds K fd ps []) : Bnd K fd ps ps.length [] (fun ds _ => ds) :=
  ⟨fun us _ => us, fun s us ws X l1 l2 => by
    have := h s us X (by rw [List.append_nil]; exact l1)
    rw [List.append_nil] at this
    exact this, fun l1 l2 r rd rz re => ⟨_, r, rd⟩⟩
/-- the last ones by their defaults -/
theorem Bnd.dfl {n : Nat} {dvs : List V} {ds0 : List Value} {dd : List D} (h : Binds K fd ps ds0) (r0 : Vals dvs ds0) (rd0 : ∀ as H, RpA K as H dvs dd) (hn : n + dd.length = ps.length) : Bnd K fd ps n [] (fun ds _ => ds ++ dd) :=
  ⟨fun us _ => us ++ ds0, fun s us ws X l1 l2 => h s us X (by rw [List.length_append, l1, ← r0.length, (rd0 (fun _ => none) (fun _ => none)).length]; exact hn), fun l1 l2 r rd rz re => ⟨_, r.append r0, rd.append (rd0 _ _)⟩⟩
/-- by place, then by keywords, in the parameters' order -/
theorem Bnd.kw {n : Nat} {ks : List Str} (h : ∀ (s : Shared) (us ws : List Value), K.In s.heap → us.length = n → ws.length = ks.length → BindsTo s fd ⟨us, ks.zip ws⟩ (ps.zip (us ++ ws))) : Bnd K fd ps n ks (fun ds es => ds ++ es) :=
  ⟨fun us ws => us ++ ws, fun s us ws X l1 l2 => h s us ws X l1 l2, fun l1 l2 r rd rz re => ⟨_, r.append rz, rd.append re⟩⟩
end

/-! ### a def by its body -/
section
variable {P : Program} {w : World} {K : PySem.W.Frag} {mg : Str → Option Value} {base : Heap}
def env0 (n : Nat) (ds : List D) : List (Option D) := ds.map some ++ List.replicate (n - ds.length) none
theorem env0_ok {as : AsM} {H0 : Hp} {N : List Str} {vs : List V} {ds : List D} (r : RpA K as H0 vs ds) : OkE K as H0 (L2.start N vs) (env0 N.length ds) := by
  have hl := r.length
  refine ⟨by unfold L2.start env0; simp [hl], fun i d e => ?_⟩
  unfold env0 at e
  unfold L2.start
  by_cases hi : i < ds.length
  · rw [List.getElem?_append_left (by simpa using hi), List.getElem?_map] at e
    cases q : ds[i]? with
    | none => rw [q] at e; cases e
    | some d' =>
      rw [q] at e
      have e' : d' = d := by simpa using e
      subst e'
      obtain ⟨v, e1, e2⟩ := r.get q
      refine ⟨v, ?_, e2⟩
      rw [List.getElem?_append_left (by rw [List.length_map, hl]; exact hi), List.getElem?_map, e1]; rfl
  · rw [List.getElem?_append_right (by simpa using hi), List.getElem?_replicate] at e
    split at e <;> cases e
theorem fn_body {x qual : Str} {params : Arguments} {body : List Stmt} {scope : Scope} {dvs : List V} {kws : List (Str × V)} {f : Addr} {fd : FuncData} {N ps : List Str} {k : Nat} {sem : Sem} {sb : DS}
    (F : FunD K x qual params body scope dvs kws f fd) (S : FnScope N ps scope) (len : ∀ ds cs R, sem ds cs R → ds.length = ps.length)
    (hb : ∀ (cdv : Value) (A : Around) (outer : List Env) (s : Shared) (H : Hp) (E : XK), A.guards = some [] → Room k (A.deeper (PyProof.Rows.envOfC qual scope s.heap.objs.size f cdv)) → PDB (cxOf CX0 P w K mg base N qual scope f cdv A outer s H E).nox body sb)
    (h : ∀ ds cs R, sem ds cs R → sb { nx := fun c => R .non c.cs, rt := R } ⟨env0 N.length ds, cs⟩) : FnG P w K mg base CX0 (k + 1) f fd ps (FnD K sem) := by
  obtain ⟨oc, od, dV, kV, doc, pm, an, cdv, ct, osl, rfl, lk, hcd, _, _⟩ := F.ex
  refine fnG_of lk hcd S (fun vs H Q E ⟨as, H0, ds, cs, R, oc, rd, sm, _⟩ => rd.length.trans (len ds cs R sm)) fun A outer s H vs Q E hg hr ⟨as, H0, ds, cs, R, oc, rd, sm, q⟩ => ?_
  refine ⟨_, (hb cdv A outer s H E hg hr (fun _ _ _ _ => False) takes0).nox, as, H0, ⟨env0 N.length ds, cs⟩, _, ⟨oc, env0_ok rd⟩, h ds cs R sm, ⟨fun as' H0' H' σ' c' l ok' hq => q as' H0' H' c'.cs .non .non l ok'.c .non hq, fun _ _ _ _ _ _ _ z => z.elim, fun _ _ _ _ _ _ _ z => z.elim, fun as' H0' H' cs' v d l oc' rp hq => q as' H0' H' cs' v d l oc' rp hq, fun _ _ _ _ _ _ _ _ _ _ _ _ z => z.elim⟩⟩
/-- a def that may raise -/
abbrev SemX := List D → Cells → (D → Cells → Prop) → (DX → Cells → Prop) → Prop
def FnDX (K : PySem.W.Frag) (mg : Str → Option Value) (sem : SemX) : Sp := fun vs H Q E => ∃ as H0 ds cs R XX, OkC K as H0 H cs ∧ RpA K as H0 vs ds ∧ sem ds cs R XX ∧
  (∀ as' H0' H' cs' v d, Le as H0 as' H0' → OkC K as' H0' H' cs' → Rp K as' H0' v d → R d cs' → Q v H') ∧
  ∀ as' H0' H' cs' x d C, Le as H0 as' H0' → OkC K as' H0' H' cs' → XD K as' H0' x d → mg x.cls = some (.ref C) → XX x cs' → E (.ref C) d H'
theorem fn_bodyX {x qual : Str} {params : Arguments} {body : List Stmt} {scope : Scope} {dvs : List V} {kws : List (Str × V)} {f : Addr} {fd : FuncData} {N ps : List Str} {k : Nat} {sem : SemX} {sb : DS}
    (F : FunD K x qual params body scope dvs kws f fd) (S : FnScope N ps scope) (len : ∀ ds cs R XX, sem ds cs R XX → ds.length = ps.length)
    (hb : ∀ (cdv : Value) (A : Around) (outer : List Env) (s : Shared) (H : Hp) (E : XK), A.guards = some [] → Room k (A.deeper (PyProof.Rows.envOfC qual scope s.heap.objs.size f cdv)) → PDB (cxOf (L2.CX P w) P w K mg base N qual scope f cdv A outer s H E) body sb)
    (h : ∀ ds cs R XX, sem ds cs R XX → sb { nx := fun c => R .non c.cs, rt := R, xx := fun x c => XX x c.cs } ⟨env0 N.length ds, cs⟩) : FnG P w K mg base (L2.CX P w) (k + 1) f fd ps (FnDX K mg sem) := by
  obtain ⟨oc, od, dV, kV, doc, pm, an, cdv, ct, osl, rfl, lk, hcd, _, _⟩ := F.ex
  refine fnG_of lk hcd S (fun vs H Q E ⟨as, H0, ds, cs, R, XX, oc, rd, sm, _⟩ => rd.length.trans (len ds cs R XX sm)) fun A outer s H vs Q E hg hr ⟨as, H0, ds, cs, R, XX, oc, rd, sm, q, qx⟩ => ?_
  refine ⟨_, hb cdv A outer s H E hg hr (fun cls d _ H => E cls d H) (takes_of rfl rfl rfl rfl), as, H0, ⟨env0 N.length ds, cs⟩, _, ⟨oc, env0_ok rd⟩, h ds cs R XX sm, ⟨fun as' H0' H' σ' c' l ok' hq => q as' H0' H' c'.cs .non .non l ok'.c .non hq, fun _ _ _ _ _ _ _ z => z.elim, fun _ _ _ _ _ _ _ z => z.elim, fun as' H0' H' cs' v d l oc' rp hq => q as' H0' H' cs' v d l oc' rp hq, fun as' H0' H' σ' c' x d C l ok' xd hm hq => qx as' H0' H' c'.cs x d C l ok'.c xd hm hq⟩⟩
end

/-! ### expressions that may raise: a call by its name -/
abbrev DEX := (DX → Z → Prop) → DE
def liftX (K : PySem.W.Frag) (mg : Str → Option Value) (W : WX) (dex : DEX) : TE := fun σ H Q => ∃ as H0 c R XX, Ok K as H0 H σ c ∧ dex XX c R ∧ Tie K mg as H0 XX W ∧
  ∀ as' H0' H' c' v d, Le as H0 as' H0' → Ok K as' H0' H' σ c' → Rp K as' H0' v d → R d c' → Q v H'
abbrev PDX (X : Cx) (e : Expr) (dex : DEX) : Prop := ∀ W : WX, Takes X W → PE X e (liftX X.K X.mg W dex)
def dFnX (n : Nat) (sem : SemX) (gD : List D → List D → List D) (da : DA) : DEX := fun XX c R => da c fun ds c1 => ds.length = n ∧ sem (gD ds []) c1.cs (fun d cs' => R d { c1 with cs := cs' }) fun x cs' => XX x { c1 with cs := cs' }
/-- where nothing may be raised -/
def semN (sem : SemX) : Sem := fun ds cs R => sem ds cs R fun _ _ => False
section
variable {X : Cx} {k n : Nat} {f : Addr} {fd : FuncData} {ps ks : List Str} {sem : SemX} {gD : List D → List D → List D} {x : Str} {p pos : Pos} {e : Expr} {es : List Expr} {kws : List Keyword} {da dk : DA}
theorem run_fnX {W : WX} (tk : Takes X W) {pins : List (Addr × Obj)} {σ : L2.St} {H : Hp} {s : Shared} {Q : VK} {us ws : List Value} {vs zs : List V} {as : AsM} {H0 : Hp} {c : Z} {ds es : List D} {R : D → Z → Prop} {XX : DX → Z → Prop}
    (F : FnG X.prog X.w X.K X.mg X.base (L2.CX X.prog X.w) k f fd ps (FnDX X.K X.mg sem)) (hgd : X.A.guards = some []) (hr : Room k X.A) (hb : Bnd X.K fd ps n ks gD) (I : Inv X pins σ H s) (r : Vals vs us) (rz : Vals zs ws) (ok : Ok X.K as H0 H σ c) (rd : RpA X.K as H0 vs ds) (re : RpA X.K as H0 zs es)
    (l1 : ds.length = n) (l2 : es.length = ks.length) (h : sem (gD ds es) c.cs (fun d cs' => R d { c with cs := cs' }) fun x cs' => XX x { c with cs := cs' }) (tie : Tie X.K X.mg as H0 XX W)
    (q : ∀ as' H0' H' c' v d, Le as H0 as' H0' → Ok X.K as' H0' H' σ c' → Rp X.K as' H0' v d → R d c' → Q v H') : wpAny (model X.prog X.w) X.A (call (.ref f) us (ks.zip ws)) (EP X pins σ Q) X.xe s := by
  obtain ⟨g, to, rel⟩ := hb.bd
  obtain ⟨vs', rv, rd'⟩ := rel (rd.length.trans l1) (re.length.trans l2) r rd rz re
  have sp : FnDX X.K X.mg sem vs' H Q (WE W σ) := ⟨as, H0, _, c.cs, _, _, ok.c, rd', h, fun as' H0' H' cs' v d l oc rp hq => q as' H0' H' { c with cs := cs' } v d l ⟨oc, ok.e.mono l⟩ rp hq,
    fun as' H0' H' cs' x d C l oc xd hm hq => tie as' H0' H' σ { c with cs := cs' } x d C l ⟨oc, ok.e.mono l⟩ xd hm hq⟩
  refine wpAny_call (codeAny_mono (F.run X.A X.stack s H _ _ vs' Q (WE W σ) hgd hr I.env0 (to s us ws I.kIn (by rw [← r.length, rd.length, l1]) (by rw [← rz.length, re.length, l2])) rv sp) fun res s' hq => ?_)
  cases res with
  | error e => exact passAt tk σ pins H s e s' I hq
  | ok fl =>
    cases fl with
    | ret u => exact I.after hq
    | _ => exact False.elim hq
theorem pdx_fn (F : FnG X.prog X.w X.K X.mg X.base (L2.CX X.prog X.w) k f fd ps (FnDX X.K X.mg sem)) (hgd : X.A.guards = some []) (hr : Room k X.A) (hg : Gl X x) (hm : X.mg x = some (.ref f)) (hk : PySem.W.keepIn X.K (.ref f) = true) (hb : Bnd X.K fd ps n [] gD)
    (ha : PDA X (e :: es) da) (hdb : (x == ("__debug__" : Str)) = false := by decide) (he : starEach (e :: es) X.env = (false, eval e X.env) :: starEach es X.env := by rfl) (hpl : (backTo pos (starEach es X.env)).any (·.1) = false := by rfl) :
    PDX X (.Call (.Name x p) (e :: es) [] pos) (dFnX n sem gD da) := by
  intro W tk
  refine ⟨fun pins s σ H Q I ⟨as, H0, c, R, XX, ok, q, tie, kk⟩ => ?_⟩
  refine wpAny_Call_Name_kw (ld_glob I hg hm ?_ hdb)
  have arg : liftA X.K da σ H fun vs H1 => ∃ as1 H01 c1 ds, Le as H0 as1 H01 ∧ Ok X.K as1 H01 H1 σ c1 ∧ RpA X.K as1 H01 vs ds ∧ ds.length = n ∧ sem (gD ds []) c1.cs (fun d cs' => R d { c1 with cs := cs' }) fun x cs' => XX x { c1 with cs := cs' } :=
    ⟨as, H0, c, _, ok, q, fun as1 H1 Hn c1 vs ds l1 ok1 r1 ⟨z1, z2⟩ => ⟨as1, H1, c1, ds, l1, ok1, r1, z1, z2⟩⟩
  refine PySem.W.callWith_K (h₀ := X.base) I.ok.mod.kin hk (thn (ha.run pos pins s σ H _ I arg) fun us s1 ⟨vs, H1, I1, r, as1, H01, c1, ds, l1, ok1, rd, z1, z2⟩ => ⟨I1.kIn, ?_⟩) he hpl
  exact run_fnX tk (ws := []) F hgd hr hb I1 r .nil ok1 rd .nil z1 rfl z2 (tie.mono l1) fun _ _ _ _ _ _ l ok' rp hq => kk _ _ _ _ _ _ (l1.trans l) ok' rp hq
/-- as a plain call, where nothing may be raised -/
theorem FnG.calm (F : FnG X.prog X.w X.K X.mg X.base (L2.CX X.prog X.w) k f fd ps (FnDX X.K X.mg sem)) : FnG X.prog X.w X.K X.mg X.base CX0 k f fd ps (FnD X.K (semN sem)) :=
  ⟨fun vs H Q E ⟨as, H0, ds, cs, R, oc, rd, sm, q⟩ => F.len vs H Q E0 ⟨as, H0, ds, cs, R, fun _ _ => False, oc, rd, sm, q, fun _ _ _ _ _ _ _ _ _ _ _ z => z.elim⟩,
   fun A outer s H args us vs Q E hg hr en bt rv ⟨as, H0, ds, cs, R, oc, rd, sm, q⟩ => codeAny_mono (F.run A outer s H args us vs Q E0 hg hr en bt rv ⟨as, H0, ds, cs, R, fun _ _ => False, oc, rd, sm, q, fun _ _ _ _ _ _ _ _ _ _ _ z => z.elim⟩) fun r s' h => by
    cases r with
    | error e =>
      obtain ⟨_, _, _, _, _, _, _, _, _, _, _, _, z⟩ := h
      exact z.elim
    | ok fl =>
      cases fl with
      | ret u => exact h
      | _ => exact False.elim h⟩
/-! #### statements that hold one -/
def sAsgX (de : DEX) (i : Nat) : DS := fun DD c => de DD.xx c fun d c1 => DD.nx { c1 with env := c1.env.set i (some d) }
def sDropX (de : DEX) : DS := fun DD c => de DD.xx c fun _ c1 => DD.nx c1
variable {dex : DEX}
theorem pds_exprX (h : PDX X e dex) (hs : swapsWith e none pos.line X.env = pure false := by rfl) : PDS X (.Expr e pos) (sDropX dex) :=
  fun W tk => ps_imp (ps_expr (h W tk) hs) fun Dn σ H ⟨as, H0, c, DD, ok, q, k⟩ => ⟨as, H0, c, _, _, ok, q, k.xx, fun as1 H1 Hn c1 v d l1 ok1 r1 q1 => k.nx _ _ _ _ _ l1 ok1 q1⟩
theorem pds_setX {i : Nat} {x : Str} {pos' : Pos} (hN : X.N.Nodup) (hi : X.N[i]? = some x) (hx : Loc X.env.scope x) (h : PDX X e dex) (hs : swapsWith e (some (.Name x pos')) pos.line X.env = pure false := by rfl)
    (hf : X.fn x = true ∨ X.env.scope.names.lookup x = some .local := by first | exact .inl rfl | exact .inr rfl | assumption) : PDS X (.Assign [.Name x pos'] e pos) (sAsgX dex i) :=
  fun W tk => ps_imp (ps_set hN hi hx (h W tk) hs hf) fun Dn σ H ⟨as, H0, c, DD, ok, q, k⟩ => ⟨as, H0, c, _, _, ok, q, k.xx, fun as1 H1 Hn c1 v d l1 ok1 r1 q1 =>
    k.nx _ _ _ _ _ l1 (⟨ok1.c, ok1.e.set i r1⟩ : Ok X.K as1 H1 Hn (σ.set i (some v)) { c1 with env := c1.env.set i (some d) }) q1⟩

/-! ### raise -/
end
end DL

namespace DL
open PySem L2

/-! ### repr -/
mutual
/-- numbers below 2^300, texts of plain signs -/
def small : D → Prop
  | .int i => -(2 ^ 200) < i ∧ i < 2 ^ 200
  | .str s => ∀ c ∈ s.cps.toList, c < 16 ^ 8
  | .lst ds => smallA ds | .slst ds => smallA ds | .tup ds => smallA ds
  | .non => True | .bl _ => True | .dic _ => False | .ref _ => False | .ty _ => False | .cel _ => False | .fn _ => False | .dicB _ _ => False | .clo _ _ _ _ => False
def smallA : List D → Prop
  | [] => True
  | d :: ds => small d ∧ smallA ds
end
mutual
def wt : D → Nat
  | .int _ => 400 | .str s => 10 * s.length + 2
  | .lst ds => 3 + wtA ds | .slst ds => 3 + wtA ds | .tup ds => 3 + wtA ds
  | .non => 5 | .bl _ => 5 | .dic _ => 5 | .ref _ => 5 | .ty _ => 5 | .cel _ => 5 | .fn _ => 5 | .dicB _ _ => 5 | .clo _ _ _ _ => 5
def wtA : List D → Nat
  | [] => 0
  | d :: ds => wt d + 2 + wtA ds
end
theorem log_small {i : Int} (h : -(2 ^ 200) < i ∧ i < 2 ^ 200) : i.natAbs.log2 < 200 := by
  by_cases h0 : i.natAbs = 0
  · rw [h0]; decide
  · exact (Nat.log2_lt h0).mpr (by
      have h1 := h.1
      have h2 := h.2
      have e : (2 : Int) ^ 200 = ((2 ^ 200 : Nat) : Int) := by norm_cast
      omega)
mutual
theorem small_shown : ∀ {d : D}, small d → plain d = true ∧ (py d).showable = true ∧ (py d).hasDict = false ∧ (py d).shown.length ≤ wt d
  | .non, h => ⟨rfl, rfl, rfl, by decide⟩
  | .bl b, h => ⟨rfl, rfl, rfl, by cases b <;> decide⟩
  | .int i, h => by
    have l := log_small h
    refine ⟨rfl, decide_eq_true (show i.natAbs.log2 < 1920 by omega), rfl, ?_⟩
    have := int_text_length_le (a := i) (k := 200) (by decide) l
    show (Str.ofString (toString i)).length ≤ 400
    have e : (Str.ofString (toString i)).length = (toString i).length := by
      exact PySem.ofString_length _
    omega
  | .str s, h => ⟨rfl, rfl, rfl, StrLaws.reprText_len s h⟩
  | .lst ds, h => by
    obtain ⟨h1, h2, h3, h4⟩ := smallA_shown (ds := ds) h
    refine ⟨h1, h2, h3, ?_⟩
    have := listText_len_le (PyData.shownAll (pyA ds))
    show (listText (PyData.shownAll (pyA ds))).length ≤ 3 + wtA ds
    omega
  | .slst ds, h => by
    obtain ⟨h1, h2, h3, h4⟩ := smallA_shown (ds := ds) h
    refine ⟨h1, h2, h3, ?_⟩
    have := listText_len_le (PyData.shownAll (pyA ds))
    show (listText (PyData.shownAll (pyA ds))).length ≤ 3 + wtA ds
    omega
  | .tup ds, h => by
    obtain ⟨h1, h2, h3, h4⟩ := smallA_shown (ds := ds) h
    refine ⟨h1, h2, h3, ?_⟩
    have := tupleText_len_le (PyData.shownAll (pyA ds))
    show (tupleText (PyData.shownAll (pyA ds))).length ≤ 3 + wtA ds
    omega
  | .dic _, h => h.elim
  | .ref _, h => h.elim
  | .ty _, h => h.elim
  | .cel _, h => h.elim
  | .fn _, h => h.elim
  | .dicB _ _, h => h.elim
  | .clo _ _ _ _, h => h.elim
theorem smallA_shown : ∀ {ds : List D}, smallA ds → plainA ds = true ∧ PyData.showableAll (pyA ds) = true ∧ PyData.hasDictAll (pyA ds) = false ∧ ((PyData.shownAll (pyA ds)).map (·.length)).sum + 2 * (PyData.shownAll (pyA ds)).length ≤ wtA ds
  | [], h => ⟨rfl, rfl, rfl, Nat.le_refl _⟩
  | d :: ds, h => by
    obtain ⟨a1, a2, a3, a4⟩ := small_shown (d := d) h.1
    obtain ⟨b1, b2, b3, b4⟩ := smallA_shown (ds := ds) h.2
    refine ⟨?_, ?_, ?_, ?_⟩
    · show (plain d && plainA ds) = true
      rw [a1, b1]; rfl
    · show (PyData.showable (py d) && PyData.showableAll (pyA ds)) = true
      rw [a2, b2]; rfl
    · show (PyData.hasDict (py d) || PyData.hasDictAll (pyA ds)) = false
      rw [a3, b3]; rfl
    · show (((PyData.shown (py d)) :: PyData.shownAll (pyA ds)).map (·.length)).sum + 2 * ((PyData.shown (py d)) :: PyData.shownAll (pyA ds)).length ≤ wt d + 2 + wtA ds
      simp only [List.map_cons, List.sum_cons, List.length_cons]
      omega
end
def fRepr : DFn := fun ds c R => match ds with
  | [d] => small d ∧ (py d).depth < 60 ∧ wt d ≤ sizeLine ∧ R (.str (py d).shown) c
  | _ => False
section
variable {X : Cx} {K : PySem.W.Frag}
end
end DL

namespace DL
open PySem L2

/-! ### constants of the module -/
section
variable {X : Cx} {K : PySem.W.Frag} {x : Str} {pos : Pos}
theorem pd_conI {i : Int} (hg : Gl X x) (h : ∃ t, X.mg x = some (.int i t)) (hd : (x == ("__debug__" : Str)) = false := by decide) : PD X (.Name x pos) (dC (.int i)) := by
  obtain ⟨t, h⟩ := h
  exact pd_glob (v := .int i) hg h ⟨t, rfl⟩ (fun _ _ => .int i) hd
theorem pd_bty {n : String} (hg : Gl X x) (hm : X.mg x = none) (hv : bootBuiltins x = some (.type n)) (hn : x ≠ "__name__" := by decide) (hd : (x == ("__debug__" : Str)) = false := by decide) : PD X (.Name x pos) (dC (.ty n)) :=
  pe_imp (pe_bltn (v := .ty n) hg hm hv rfl hn hd) (lift_c fun _ _ => .ty n)
end

/-! ### dicts written out -/
section
variable {X : Cx} {K : PySem.W.Frag} {pos : Pos}
def dDNew : DE := fun c R => R (.dic []) c
theorem rp_dic {as : AsM} {H0 : Hp} {p : Addr} {od : Obj} {vs : List (Key × V)} {ds : List (Key × D)} (l : Le as H0 as (upd H0 p (.frz od (.dK vs)))) (r : RpK K as H0 vs ds) : Rp K as (upd H0 p (.frz od (.dK vs))) (.ref p) (.dic ds) := .dic upd_same (r.mono l)
theorem pd_dnew : PD X (.Dict [] [] pos) dDNew := pe_imp (pe_frz pe_dnewK) fun σ H Q ⟨as, H0, c, R, ok, q, k⟩ => fun p hp => ⟨p, _, rfl, upd_same, True.intro, fun od => by
  obtain ⟨l, ok'⟩ := new_known (o := .frz od (.dK [])) ok hp
  rw [upd_upd]
  exact k _ _ _ _ _ _ l ok' (rp_dic l .nil) q⟩
def keyD : D → Option Key | .int i => some (.inl i) | .str s => some (.inr s) | _ => none
def putD (kvs : List (Key × D)) (k : Key) (d : D) : List (Key × D) := if (kvs.any fun kv => decide (kv.1 = k)) = true then kvs.map (fun kv => if kv.1 = k then (kv.1, d) else kv) else kvs ++ [(k, d)]
def mergeD (kvs more : List (Key × D)) : List (Key × D) := more.foldl (fun acc kv => putD acc kv.1 kv.2) kvs
theorem RpK.any {as : AsM} {H : Hp} {k : Key} : ∀ {ds : List (Key × D)} {vs : List (Key × V)}, RpK K as H vs ds → (vs.any fun kv => decide (kv.1 = k)) = (ds.any fun kv => decide (kv.1 = k))
  | [], _, h => by cases h; rfl
  | _ :: _, _, h => by cases h with | cons h1 h2 => simp only [List.any_cons]; rw [RpK.any h2]
theorem RpK.mapk {as : AsM} {H : Hp} {k : Key} {v : V} {d : D} (r : Rp K as H v d) : ∀ {ds : List (Key × D)} {vs : List (Key × V)}, RpK K as H vs ds → RpK K as H (vs.map fun kv => if kv.1 = k then (kv.1, v) else kv) (ds.map fun kv => if kv.1 = k then (kv.1, d) else kv)
  | [], _, h => by cases h; exact .nil
  | (j, e) :: ds, _, h => by
    cases h with
    | cons h1 h2 =>
      simp only [List.map_cons]
      by_cases q : j = k
      · rw [if_pos q, if_pos q]; exact .cons r (RpK.mapk r h2)
      · rw [if_neg q, if_neg q]; exact .cons h1 (RpK.mapk r h2)
theorem RpK.snoc {as : AsM} {H : Hp} {k : Key} {v : V} {d : D} (r : Rp K as H v d) : ∀ {ds : List (Key × D)} {vs : List (Key × V)}, RpK K as H vs ds → RpK K as H (vs ++ [(k, v)]) (ds ++ [(k, d)])
  | [], _, h => by cases h; exact .cons r .nil
  | _ :: _, _, h => by cases h with | cons h1 h2 => exact .cons h1 (RpK.snoc r h2)
theorem RpK.put {as : AsM} {H : Hp} {k : Key} {v : V} {d : D} {ds : List (Key × D)} {vs : List (Key × V)} (h : RpK K as H vs ds) (r : Rp K as H v d) : RpK K as H (putK vs k v) (putD ds k d) := by
  unfold putK putD
  rw [h.any]
  by_cases q : (ds.any fun kv => decide (kv.1 = k)) = true
  · rw [if_pos q, if_pos q]; exact h.mapk r
  · rw [if_neg q, if_neg q]; exact h.snoc r
theorem RpK.merge {as : AsM} {H : Hp} : ∀ {es : List (Key × D)} {us : List (Key × V)} {ds : List (Key × D)} {vs : List (Key × V)}, RpK K as H us es → RpK K as H vs ds → RpK K as H (mergeK vs us) (mergeD ds es)
  | [], _, _, _, h, g => by cases h; exact g
  | (k, d) :: es, _, ds, vs, h, g => by
    cases h with
    | @cons _ v us _ _ h1 h2 =>
      show RpK K as H (mergeK (putK vs k v) us) (mergeD (putD ds k d) es)
      exact RpK.merge h2 (g.put h1)
end

/-! ### in, not in; is None; chains as tests -/
section
variable {X : Cx} {K : PySem.W.Frag} {a b c : Expr} {da db dc : DE} {pos : Pos}
def flatD : D → Bool | .non => true | .bl _ => true | .int _ => true | .str _ => true | _ => false
def eqF : D → D → Bool
  | .non, .non => true | .bl a, .bl b => a == b | .bl a, .int b => (if a then 1 else 0) == b | .int a, .bl b => a == (if b then 1 else 0) | .int a, .int b => a == b | .str a, .str b => a == b | _, _ => false
def seqD : D → Option (List D) | .lst ds => some ds | .slst ds => some ds | .tup ds => some ds | _ => none
theorem seqD_rp {as : AsM} {H0 H : Hp} {v : V} {d : D} {ds : List D} (e : ∀ a o, H0 a = some o → H a = some o) (r : Rp K as H0 v d) (h : seqD d = some ds) : ∃ a vs, v = .ref a ∧ (SqL K H a vs ∨ SqT K H a vs) ∧ RpA K as H0 vs ds := by
  cases r with
  | lst h1 h2 => cases h; exact ⟨_, _, rfl, .inl (SqL.of (e _ _ h1)), h2⟩
  | slst h1 h2 => cases h; exact ⟨_, _, rfl, .inl (seqL_mono e h1), h2⟩
  | tup h1 h2 => cases h; exact ⟨_, _, rfl, .inr (seqT_mono e h1), h2⟩
  | _ => cases h
theorem flat_rp {as : AsM} {H : Hp} {v : V} {d : D} (r : Rp K as H v d) (h : flatD d = true) : flatV v = true := by
  cases r <;> first | rfl | cases h
theorem flats_rp {as : AsM} {H : Hp} : ∀ {ds : List D} {vs : List V}, RpA K as H vs ds → ds.all flatD = true → vs.all flatV = true
  | [], _, r, h => by cases r; rfl
  | d :: ds, _, r, h => by
    cases r with
    | cons r1 r2 =>
      have h' := Bool.and_eq_true_iff.mp (show (flatD d && ds.all flatD) = true from h)
      rw [List.all_cons, flat_rp r1 h'.1, flats_rp r2 h'.2]; rfl
theorem eqF_rp {as : AsM} {H : Hp} {v u : V} {d e : D} (r : Rp K as H v d) (r' : Rp K as H u e) (h : flatD d = true) (h' : flatD e = true) : eqV v u = eqF d e := by
  cases r <;> first | (cases h; done) | (cases r' <;> first | (cases h'; done) | rfl)
theorem inV_rp {as : AsM} {H : Hp} {u : V} {e : D} (r' : Rp K as H u e) (h' : flatD e = true) : ∀ {ds : List D} {vs : List V}, RpA K as H vs ds → ds.all flatD = true → inV u vs = ds.any fun d => eqF d e
  | [], _, r, h => by cases r; rfl
  | d :: ds, _, r, h => by
    cases r with
    | cons r1 r2 =>
      have hh := Bool.and_eq_true_iff.mp (show (flatD d && ds.all flatD) = true from h)
      have := inV_rp r' h' r2 hh.2
      unfold inV at this ⊢
      rw [List.any_cons, List.any_cons, this, eqF_rp r1 r' hh.1 h']
def dInN (neg : Bool) : DF := fun x y c R => ∃ ds, seqD y = some ds ∧ flatD x = true ∧ ds.all flatD = true ∧ R (.bl (if neg then !(ds.any fun d => eqF d x) else ds.any fun d => eqF d x)) c
def dIn : DF := dInN false
theorem opD_in {neg : Bool} : OpD K (rIn K neg) (dInN neg) := by
  intro as H0 H σ c v1 v2 d1 d2 R Q ok r1 r2 ⟨ds, h1, h2, h3, h4⟩ k
  obtain ⟨a, vs, rfl, g1, g2⟩ := seqD_rp ok.c.ex r2 h1
  exact ⟨a, vs, rfl, g1, flat_rp r1 h2, flats_rp g2 h3, by rw [inV_rp r1 h2 g2 h3]; exact k _ _ _ _ _ _ .refl ok (.bl _) h4⟩
theorem pd_in (_ : X.A.units + 1 < cLine) (_ : X.A.units + 64 < cLine) (ha : PD X a da) (hb : PD X b db) (hm : behindInMarks .In b = false) : PD X (.Compare a [.In] [b] pos) (dBin dIn da db) := pd_cmp op_in_seq opD_in ha hb hm
def isNon : D → Bool | .non => true | _ => false
def dIsN (da : DE) : DE := fun c R => da c fun x c1 => R (.bl (isNon x)) c1
def dIsNotN (da : DE) : DE := fun c R => da c fun x c1 => R (.bl (!isNon x)) c1
theorem isNon_rp {as : AsM} {H : Hp} {v : V} {d : D} (r : Rp K as H v d) : decide (v = V.non) = isNon d := by cases r <;> rfl
theorem pd_isN {j p2} (ha : PD X a da) : PD X (.Compare a [.Is] [.Constant .none j p2] pos) (dIsN da) :=
  pe_imp (pe_cmpR op_isN ha pe_non (nomark _)) fun σ H Q ⟨as, H0, c, R, ok, q, k⟩ => ⟨as, H0, c, _, ok, q, fun as1 H1 Hn c1 v d l1 ok1 r1 q1 => ⟨rfl, by rw [isNon_rp r1]; exact k _ _ _ _ _ _ l1 ok1 (.bl _) q1⟩⟩
def dTB (da : DE) : DT := fun c R => da c fun x c1 => match x with | .bl b => R b c1 | _ => False
theorem pdt_chain {op op' : CmpOp} {r r' : R2} {f g : DF} (ho : OpR X (compareOp op) r) (hf : OpD X.K r f) (ho' : OpR X (compareOp op') r') (hg : OpD X.K r' g) (ha : PD X a da) (hb : PD X b db) (hc : PD X c dc)
    (hm : lastMarks [op, op'] [b, c] = false) : PDT X (.Compare a [op, op'] [b, c] pos) (dTB (dChain f g da db dc)) :=
  pt_imp (pt_chain ho ho' ha hb hc hm) fun σ H Q ⟨as, H0, c, R, ok, q, k⟩ => ⟨as, H0, c, _, ok, q, fun as1 H1 Hn c1 v1 d1 l1 ok1 r1 q1 => ⟨as1, H1, c1, _, ok1, q1, fun as2 H2 Hn2 c2 v2 d2 l2 ok2 r2 q2 => by
    refine hf as2 H2 Hn2 σ c2 v1 v2 d1 d2 _ _ ok2 (r1.mono l2) r2 q2 fun as3 H3 Hn3 c3 v3 d3 l3 ok3 r3 q3 => ?_
    cases d3 with
    | bl z =>
      cases r3
      refine ⟨z, rfl, ?_⟩
      cases z with
      | true =>
        rw [if_pos rfl]
        refine ⟨as3, H3, c3, _, ok3, q3, fun as4 H4 Hn4 c4 v4 d4 l4 ok4 r4 q4 => hg as4 H4 Hn4 σ c4 v2 v4 d2 d4 _ _ ok4 (r2.mono (l3.trans l4)) r4 q4 fun as5 H5 Hn5 c5 v5 d5 l5 ok5 r5 q5 => ?_⟩
        cases d5 with
        | bl b' => cases r5; exact ⟨_, rfl, k _ _ _ _ _ ((((l1.trans l2).trans l3).trans l4).trans l5) ok5 q5⟩
        | _ => exact q5.elim
      | false =>
        rw [if_neg Bool.false_ne_true]
        exact ⟨_, rfl, k _ _ _ _ _ ((l1.trans l2).trans l3) ok3 q3⟩
    | _ => exact q3.elim⟩⟩
end

/-! #### comparisons as tests -/
section
variable {X : Cx} {K : PySem.W.Frag} {a b : Expr} {da db : DE} {pos : Pos}
theorem lift_tb {t : TE} {da : DE} (h : ∀ σ H Q, lift K da σ H Q → t σ H Q) : ∀ σ H Q, liftT K (dTB da) σ H Q → tTest t σ H Q :=
  fun σ H Q ⟨as, H0, c, R, ok, q, k⟩ => h σ H _ ⟨as, H0, c, _, ok, q, fun as1 H1 Hn1 c1 v d l1 ok1 r1 q1 => by
    cases d with
    | bl b => cases r1; exact ⟨b, rfl, k _ _ _ _ _ l1 ok1 q1⟩
    | _ => exact q1.elim⟩
theorem pdt_cmp {op : CmpOp} {r : R2} {f : DF} (ho : OpR X (compareOp op) r) (hd : OpD X.K r f) (ha : PD X a da) (hb : PD X b db) (hm : behindInMarks op b = false) : PDT X (.Compare a [op] [b] pos) (dTB (dBin f da db)) :=
  pt_imp (pt_cmpR ho ha hb hm) (lift_tb (lift_op hd))
theorem pdt_isN {j p2} (ha : PD X a da) : PDT X (.Compare a [.Is] [.Constant .none j p2] pos) (dTB (dIsN da)) :=
  pt_imp (pt_cmpR op_isN ha pe_non (nomark _)) (lift_tb fun σ H Q ⟨as, H0, c, R, ok, q, k⟩ => ⟨as, H0, c, _, ok, q, fun as1 H1 Hn c1 v d l1 ok1 r1 q1 => ⟨rfl, by rw [isNon_rp r1]; exact k _ _ _ _ _ _ l1 ok1 (.bl _) q1⟩⟩)
theorem kw_end {α : Type} {D : Addr} {t : PySem.Sem α} {r : α} (h : t = pure r) : KwChain D [] t r := h
end

/-! ### written places -/
section
variable {α : Type} {a b c d e f g h i j k l : α} {xs : List α}
theorem at_nat {n : Nat} {x : α} (h : xs[n]? = some x) : atI xs (n : Int) = some x := atI_nat h
theorem at0 : atI (a :: xs) 0 = some a := at_nat (n := 0) rfl
theorem at1 : atI (a :: b :: xs) 1 = some b := at_nat (n := 1) rfl
theorem at2 : atI (a :: b :: c :: xs) 2 = some c := at_nat (n := 2) rfl
theorem at3 : atI (a :: b :: c :: d :: xs) 3 = some d := at_nat (n := 3) rfl
theorem at4 : atI (a :: b :: c :: d :: e :: xs) 4 = some e := at_nat (n := 4) rfl
theorem at5 : atI (a :: b :: c :: d :: e :: f :: xs) 5 = some f := at_nat (n := 5) rfl
theorem ix20 : ixN 2 0 = some 0 := rfl
theorem ix21 : ixN 2 1 = some 1 := rfl
/-- a place that is not written -/
theorem at_in {n : Int} (h0 : 0 ≤ n) (h1 : n < xs.length) : ∃ x, atI xs n = some x ∧ x ∈ xs := by
  have e : n = ((n.toNat : Nat) : Int) := by omega
  have hl : n.toNat < xs.length := by omega
  have q : atI xs ((n.toNat : Nat) : Int) = some xs[n.toNat] := at_nat (List.getElem?_eq_getElem hl)
  rw [← e] at q
  exact ⟨xs[n.toNat], q, List.getElem_mem hl⟩
end

/-! ### the law's own call -/
end DL

/-! the readings' equations: what simp may use -/
namespace DL
open PySem L2
def onB (x : D) (t f : Prop) : Prop := match x with | .bl true => t | .bl false => f | _ => False
def onI (x : D) (k : Int → Prop) : Prop := match x with | .int i => k i | _ => False
def setC (o i v : D) (c : Z) (R : Z → Prop) : Prop := match o, i with
  | .cel k, .int j => ∃ ds n, c.cs k = some (.lst ds) ∧ ixN ds.length j = some n ∧ R { c with cs := put c.cs k (.lst (ds.set n v)) }
  | _, _ => False
section
variable {c : Z} {R : D → Z → Prop} {RT : Bool → Z → Prop} {RO : Option Int → Z → Prop} {RL : List D → Z → Prop} {da db dc : DE} {dr : DA} {ta tb : DT} {f g : DF} {i j : Int} {a b : Bool} {s t : Str} {xs ys : List D} {kvs : List (Key × D)} {k : Nat} {x y d : D} {A B : Prop}
theorem onB_t : onB (.bl true) A B = A := rfl
theorem onB_f : onB (.bl false) A B = B := rfl
theorem onB_dec {p : Prop} [Decidable p] : onB (.bl (decide p)) A B = if p then A else B := by by_cases h : p <;> simp [onB, h]
theorem onB_ndec {p : Prop} [Decidable p] : onB (.bl (!decide p)) A B = if p then B else A := by by_cases h : p <;> simp [onB, h]
theorem onB_not : onB (.bl (!a)) A B = onB (.bl a) B A := by cases a <;> rfl
theorem onI_i {kk : Int → Prop} : onI (.int i) kk = kk i := rfl
theorem e_add_ii : dAdd (.int i) (.int j) c R = R (.int (i + j)) c := rfl
theorem e_add_ib : dAdd (.int i) (.bl b) c R = R (.int (i + PyProof.Rows.b2i b)) c := rfl
theorem e_add_ss : dAdd (.str s) (.str t) c R = (s.length + t.length ≤ sizeLine ∧ R (.str (s ++ t)) c) := rfl
theorem e_add_ll : dAdd (.lst xs) (.lst ys) c R = (xs.length + ys.length ≤ sizeLine ∧ R (.lst (xs ++ ys)) c) := rfl
theorem e_add_tt : dAdd (.tup xs) (.tup ys) c R = (xs ≠ [] ∧ xs.length + ys.length ≤ sizeLine ∧ R (.tup (xs ++ ys)) c) := rfl
theorem e_int2 {C : Int → Int → Prop} {gg : Int → Int → D} : dInt2 C gg (.int i) (.int j) c R = (C i j ∧ R (gg i j) c) := rfl
theorem e_neg : dNeg da c R = da c fun x c1 => onI x fun i => R (.int (-i)) c1 := rfl
theorem e_eq_ii : dEq (.int i) (.int j) c R = R (.bl (decide (i = j))) c := rfl
theorem e_eq_bb : dEq (.bl a) (.bl b) c R = R (.bl (decide (a = b))) c := rfl
theorem e_eq_ss : dEq (.str s) (.str t) c R = R (.bl (decide (s = t))) c := rfl
theorem e_ne_ii : dNe (.int i) (.int j) c R = R (.bl (!decide (i = j))) c := rfl
theorem e_ne_bb : dNe (.bl a) (.bl b) c R = R (.bl (!decide (a = b))) c := rfl
theorem e_ne_ss : dNe (.str s) (.str t) c R = R (.bl (!decide (s = t))) c := rfl
def GenEq (x y : D) (A : Bool → Prop) : Prop := plain x = true ∧ plain y = true ∧ SeqAt.shaped (py x) = true ∧ SeqAt.shaped (py y) = true ∧ A (PyData.eqv (py x) (py y))
theorem e_eq_l : dEq (.lst xs) y c R = GenEq (.lst xs) y fun b => R (.bl b) c := by cases y <;> rfl
theorem e_eq_sl : dEq (.slst xs) y c R = GenEq (.slst xs) y fun b => R (.bl b) c := by cases y <;> rfl
theorem e_eq_t : dEq (.tup xs) y c R = GenEq (.tup xs) y fun b => R (.bl b) c := by cases y <;> rfl
theorem e_eq_n : dEq .non y c R = GenEq .non y fun b => R (.bl b) c := by cases y <;> rfl
theorem e_ne_l : dNe (.lst xs) y c R = GenEq (.lst xs) y fun b => R (.bl (!b)) c := by cases y <;> rfl
theorem e_ne_sl : dNe (.slst xs) y c R = GenEq (.slst xs) y fun b => R (.bl (!b)) c := by cases y <;> rfl
theorem e_ne_t : dNe (.tup xs) y c R = GenEq (.tup xs) y fun b => R (.bl (!b)) c := by cases y <;> rfl
theorem e_ne_n : dNe .non y c R = GenEq .non y fun b => R (.bl (!b)) c := by cases y <;> rfl
theorem e_chain : dChain f g da db dc c R = da c fun x c1 => db c1 fun y c2 => f x y c2 fun z c3 => onB z (dc c3 fun w c4 => g y w c4 R) (R (.bl false) c3) := rfl
theorem e_tru_n : truD .non = some false := rfl
theorem e_tru_b : truD (.bl b) = some b := rfl
theorem e_tru_i : truD (.int i) = some (i != 0) := rfl
theorem e_tru_l : truD (.lst xs) = some (!xs.isEmpty) := rfl
theorem e_tru_sl : truD (.slst xs) = some (!xs.isEmpty) := rfl
theorem e_tru_t : truD (.tup xs) = some (!xs.isEmpty) := rfl
theorem e_tru_d : truD (.dic kvs) = none := rfl
theorem e_tb : dTB da c RT = da c fun x c1 => onB x (RT true c1) (RT false c1) := by
  unfold dTB onB
  congr 1; funext x c1
  cases x <;> first | rfl | (rename_i b; cases b <;> rfl)
theorem e_andT : dAndT ta tb c RT = ta c fun b c1 => if b = true then tb c1 RT else RT false c1 := by
  unfold dAndT; congr 1; funext b c1; cases b <;> simp
theorem e_orT : dOrT ta tb c RT = ta c fun b c1 => if b = true then RT true c1 else tb c1 RT := by
  unfold dOrT; congr 1; funext b c1; cases b <;> simp
theorem e_andV : dAndV da db c R = da c fun x c1 => onB x (db c1 R) (R (.bl false) c1) := rfl
theorem e_orV : dOrV da db c R = da c fun x c1 => onB x (R (.bl true) c1) (db c1 R) := rfl
theorem e_ifE : dIfE ta da db c R = ta c fun b c1 => if b = true then da c1 R else db c1 R := by
  unfold dIfE; congr 1; funext b c1; cases b <;> simp
theorem e_if {s1 s2 : DS} {DD : DEnds} : sIf ta s1 s2 DD c = ta c fun b c1 => if b = true then s1 DD c1 else s2 DD c1 := by
  unfold sIf; congr 1; funext b c1; cases b <;> simp
theorem e_abs : fAbs [.int i] c R = R (.int (if i < 0 then -i else i)) c := rfl
theorem e_max : fMax [.int i, .int j] c R = R (.int (if j > i then j else i)) c := rfl
theorem e_min : fMin [.int i, .int j] c R = R (.int (if j < i then j else i)) c := rfl
theorem e_int_i : fInt [.int i] c R = R (.int i) c := rfl
theorem e_int_b : fInt [.bl b] c R = R (.int (if b then 1 else 0)) c := rfl
theorem e_len_l : fLen [.lst xs] c R = R (.int (xs.length : Int)) c := rfl
theorem e_len_sl : fLen [.slst xs] c R = R (.int (xs.length : Int)) c := rfl
theorem e_len_t : fLen [.tup xs] c R = R (.int (xs.length : Int)) c := rfl
theorem e_len_d : fLen [.dic kvs] c R = R (.int (kvs.length : Int)) c := rfl
theorem e_len_s : fLen [.str s] c R = (s.length ≤ sizeLine ∧ R (.int (s.length : Int)) c) := rfl
theorem e_len_c : fLen [.cel k] c R = ∃ xs, c.cs k = some (.lst xs) ∧ R (.int (xs.length : Int)) c := rfl
theorem e_sum {ns : List Int} (h : listD d = some (ns.map D.int)) : fSum [d] c R = R (.int ns.sum) c := by
  apply propext
  constructor
  · rintro ⟨d', zs, ms, e, h1, h2, h3⟩
    cases e
    rw [h] at h1; cases h1
    rw [intsOf_map] at h2; cases h2
    exact h3
  · intro h3
    exact ⟨d, _, ns, rfl, h, intsOf_map ns, h3⟩
theorem e_sum_l {ns : List Int} : fSum [.lst (ns.map D.int)] c R = R (.int ns.sum) c := e_sum rfl
theorem e_ix_l : dIxF (.lst xs) (.int i) c R = ∃ d, atI xs i = some d ∧ R d c := rfl
theorem e_ix_sl : dIxF (.slst xs) (.int i) c R = ∃ d, atI xs i = some d ∧ R d c := rfl
theorem e_ix_t : dIxF (.tup xs) (.int i) c R = ∃ d, atI xs i = some d ∧ R d c := rfl
theorem e_ix_c : dIxF (.cel k) (.int i) c R = ∃ ds d, c.cs k = some (.lst ds) ∧ atI ds i = some d ∧ R d c := rfl
theorem e_ix_s : dIxF (.str s) (.int i) c R = ∃ ch, s.length ≤ sizeLine ∧ atI s.cps.toList i = some ch ∧ R (.str ⟨#[ch]⟩) c := rfl
theorem e_ix_di : dIxF (.dic kvs) (.int i) c R = ∃ d, lookD kvs (.inl i) = some d ∧ R d c := rfl
theorem e_ix_ds : dIxF (.dic kvs) (.str s) c R = ∃ d, lookD kvs (.inr s) = some d ∧ R d c := rfl
theorem e_part : dPart da c RO = da c fun x c1 => onI x fun i => RO (some i) c1 := rfl
theorem e_sl_l {lo hi : Option Int} : dSlF (.lst xs) lo hi c R = R (.lst (cutD xs lo hi)) c := rfl
theorem e_sl_sl {lo hi : Option Int} : dSlF (.slst xs) lo hi c R = R (.lst (cutD xs lo hi)) c := rfl
theorem e_sl_t {lo hi : Option Int} : dSlF (.tup xs) lo hi c R = (¬ (HT.sIx xs.length 0 lo = 0 ∧ HT.sIx xs.length xs.length hi = xs.length) ∧ R (.tup (cutD xs lo hi)) c) := rfl
theorem e_sl_s {lo hi : Option Int} : dSlF (.str s) lo hi c R = (s.length ≤ sizeLine ∧ R (.str (cutS s lo hi)) c) := rfl
theorem e_rng1 : iRng1 dr c RL = dr c fun ds c1 => match ds with | [x] => onI x fun n => -(2 ^ 62) ≤ n ∧ n < 2 ^ 62 ∧ RL (rangeD 0 n.toNat) c1 | _ => False := by
  unfold iRng1 onI
  congr 1; funext ds c1
  match ds with
  | [] => rfl
  | [x] => cases x <;> rfl
  | x :: y :: r => cases x <;> rfl
theorem e_par {DD : DEnds} {n m : Nat} : sPar n m dr DD c = dr c fun ds c1 => match ds with
  | [d1, d2] => DD.nx { c1 with env := (c1.env.set n (some d1)).set m (some d2) }
  | _ => False := rfl
theorem e_set {do_ di : DE} {v : D} {RZ : Z → Prop} : gIx do_ di v c RZ = do_ c fun o c1 => di c1 fun i c2 => setC o i v c2 RZ := rfl
theorem e_setC {v : D} {RZ : Z → Prop} : setC (.cel k) (.int i) v c RZ = ∃ ds n, c.cs k = some (.lst ds) ∧ ixN ds.length i = some n ∧ RZ { c with cs := put c.cs k (.lst (ds.set n v)) } := rfl
end
end DL

namespace DL
open PySem L2

/-! ### what is walked, of any kind -/
structure ItD (K : PySem.W.Frag) (as : AsM) (H0 : Hp) (J : It) (ds : List D) : Prop where
  go : ∀ as' H0' H cs i, Le as H0 as' H0' → OkC K as' H0' H cs → i < ds.length → J.go i H
  yld : ∀ as' H0' H cs i x H' d, Le as H0 as' H0' → OkC K as' H0' H cs → ds[i]? = some d → J.yld i H x H' → ∃ H0'', Le as' H0' as' H0'' ∧ OkC K as' H0'' H' cs ∧ Rp K as' H0'' x d
  stop : ∀ as' H0' H cs, Le as H0 as' H0' → OkC K as' H0' H cs → J.stop ds.length H
structure PDI (X : Cx) (tg iter : Expr) (di : DI) : Prop where
  ex : ∃ wi, PI X tg iter wi ∧ ∀ σ H (Q : It → Hp → Prop), (∃ as H0 c R, Ok X.K as H0 H σ c ∧ di c R ∧
    ∀ as1 H01 H1 c1 ds J, Le as H0 as1 H01 → Ok X.K as1 H01 H1 σ c1 → ItD X.K as1 H01 J ds → R ds c1 → Q J H1) → wi σ H Q
section
variable {K : PySem.W.Frag} {X : Cx} {e tg : Expr} {da : DE} {dr : DA} {pos : Pos}
theorem RpA.at {as : AsM} {H : Hp} {vs : List V} {ds : List D} {i : Nat} {d : D} {x : V} (r : RpA K as H vs ds) (h : ds[i]? = some d) (h' : vs[i]? = some x) : Rp K as H x d := by
  obtain ⟨v, e1, e2⟩ := r.get h
  rw [h'] at e1; cases e1; exact e2
theorem RpA.some {as : AsM} {H : Hp} {vs : List V} {ds : List D} {i : Nat} (r : RpA K as H vs ds) (h : i < ds.length) : ∃ x, vs[i]? = some x :=
  ⟨_, List.getElem?_eq_getElem (by rw [r.length]; exact h)⟩
theorem itd_list {as : AsM} {H0 : Hp} {a : Addr} {vs : List V} {ds : List D} (q : SqL K H0 a vs) (r : RpA K as H0 vs ds) : ItD K as H0 (Itl K a) ds where
  go := fun as' H0' H cs i l ok h => let ⟨x, hx⟩ := r.some h; ⟨vs, x, seqL_mono (fun b o z => ok.ex b o (l.hp b o z)) q, hx⟩
  yld := fun as' H0' H cs i x H' d l ok h ⟨e, y⟩ => by
    subst e
    exact ⟨H0', .refl, ok, (r.mono l).at h (y vs (seqL_mono (fun b o z => ok.ex b o (l.hp b o z)) q))⟩
  stop := fun as' H0' H cs l ok => ⟨vs, seqL_mono (fun b o z => ok.ex b o (l.hp b o z)) q, Nat.le_of_eq r.length⟩
theorem itd_tup {as : AsM} {H0 : Hp} {a : Addr} {vs : List V} {ds : List D} (q : SqT K H0 a vs) (r : RpA K as H0 vs ds) : ItD K as H0 (Itt K a) ds where
  go := fun as' H0' H cs i l ok h => let ⟨x, hx⟩ := r.some h; ⟨vs, x, seqT_mono (fun b o z => ok.ex b o (l.hp b o z)) q, hx⟩
  yld := fun as' H0' H cs i x H' d l ok h ⟨e, y⟩ => by
    subst e
    exact ⟨H0', .refl, ok, (r.mono l).at h (y vs (seqT_mono (fun b o z => ok.ex b o (l.hp b o z)) q))⟩
  stop := fun as' H0' H cs l ok => ⟨vs, seqT_mono (fun b o z => ok.ex b o (l.hp b o z)) q, Nat.le_of_eq r.length⟩
theorem itd_rng {as : AsM} {H0 : Hp} {lo : Int} {n : Nat} : ItD K as H0 (Itr lo n) (rangeD lo n) where
  go := fun as' H0' H cs i l ok h => by rw [rangeD_length] at h; exact h
  yld := fun as' H0' H cs i x H' d l ok h ⟨e, y⟩ => by
    subst e y
    obtain ⟨_, rfl⟩ := rangeD_get h
    exact ⟨H0', .refl, ok, .int _⟩
  stop := fun as' H0' H cs l ok => by rw [rangeD_length]; exact Nat.le_refl _
/-- enumerate -/
def enumD (ds : List D) : List D := (List.range ds.length).zipWith (fun (i : Nat) d => D.tup [.int (i : Int), d]) ds
@[simp] theorem enumD_length {ds : List D} : (enumD ds).length = ds.length := by simp [enumD]
theorem enumD_get {ds : List D} {i : Nat} {d : D} (h : (enumD ds)[i]? = some d) : ∃ e, ds[i]? = some e ∧ d = .tup [.int (i : Int), e] := by
  unfold enumD at h
  rw [List.getElem?_zipWith] at h
  have hi : i < ds.length := by
    rcases Nat.lt_or_ge i ds.length with q | q
    · exact q
    · rw [List.getElem?_eq_none (l := ds) q] at h
      rcases hh : (List.range ds.length)[i]? with _ | v <;> rw [hh] at h <;> cases h
  rw [List.getElem?_range hi] at h
  cases q : ds[i]? with
  | none => rw [q] at h; cases h
  | some e => rw [q] at h; cases h; exact ⟨e, rfl, rfl⟩
theorem OkC.tup {as : AsM} {H0 H : Hp} {cs : Cells} {T : Addr} {vs : List V} {ds : List D} (ok : OkC K as H0 H cs) (hT : H T = none) (r : RpA K as H0 vs ds) :
    ∃ H0'', Le as H0 as H0'' ∧ OkC K as H0'' (upd H T (.tup vs)) cs ∧ Rp K as H0'' (.ref T) (.tup ds) :=
  let ⟨l, k⟩ := ok.grow (o := .tup vs) hT
  ⟨_, l, k, .tup (SqT.of upd_same) (r.mono l)⟩
theorem itd_enum {as : AsM} {H0 : Hp} {a : Addr} {vs : List V} {ds : List D} (q : SqL K H0 a vs) (r : RpA K as H0 vs ds) : ItD K as H0 (Ite K a) (enumD ds) where
  go := fun as' H0' H cs i l ok h => let ⟨x, hx⟩ := r.some (by rw [enumD_length] at h; exact h); ⟨vs, x, seqL_mono (fun b o z => ok.ex b o (l.hp b o z)) q, hx⟩
  yld := fun as' H0' H cs i x H' d l ok h ⟨T, y, e1, hT, e2, hy⟩ => by
    subst e1 e2
    obtain ⟨e, he, rfl⟩ := enumD_get h
    exact ok.tup hT (.cons (.int _) (.cons ((r.mono l).at he (hy vs (seqL_mono (fun b o z => ok.ex b o (l.hp b o z)) q))) .nil))
  stop := fun as' H0' H cs l ok => ⟨vs, seqL_mono (fun b o z => ok.ex b o (l.hp b o z)) q, by rw [enumD_length]; exact Nat.le_of_eq r.length⟩
theorem pdi_list (hi : PD X e da) : PDI X tg e (iSeq da) := ⟨_, pi_list hi, fun σ H Q ⟨as, H0, c, R, ok, q, k⟩ => ⟨as, H0, c, _, ok, q, fun as1 H1 Hn1 c1 v d l1 ok1 r1 ⟨ds, e1, q1⟩ => by
  obtain ⟨a, vs, rfl, g1, g2⟩ := listD_rp (fun _ _ z => z) r1 e1
  exact ⟨a, rfl, ⟨vs, seqL_mono ok1.c.ex g1⟩, k _ _ _ _ _ _ l1 ok1 (itd_list g1 g2) q1⟩⟩⟩
theorem pdi_tup (hi : PD X e da) : PDI X tg e (iTp da) := ⟨_, pi_tup hi, fun σ H Q ⟨as, H0, c, R, ok, q, k⟩ => ⟨as, H0, c, _, ok, q, fun as1 H1 Hn1 c1 v d l1 ok1 r1 ⟨ds, e1, q1⟩ => by
  subst e1
  cases r1 with
  | tup g1 g2 => exact ⟨_, rfl, ⟨_, seqT_mono ok1.c.ex g1⟩, k _ _ _ _ _ _ l1 ok1 (itd_tup g1 g2) q1⟩⟩⟩
theorem pdi_range1 {a : Expr} {p cpos : Pos} (hgl : Gl X "range") (hm : X.mg "range" = none) (ha : PDA X [a] dr) (hs : starEach [a] X.env = [(false, eval a X.env)] := by rfl) : PDI X tg (.Call (.Name "range" p) [a] [] cpos) (iRng1 dr) :=
  ⟨_, pi_range1 hgl hm ha hs, fun σ H Q ⟨as, H0, c, R, ok, q, k⟩ => ⟨as, H0, c, _, ok, q, fun as1 H1 Hn1 c1 vs ds l1 ok1 r1 q1 => by
    split at q1
    · obtain ⟨b1, b2, q2⟩ := q1
      obtain ⟨v, rfl, r⟩ := rpa1 r1
      cases r
      exact ⟨_, rfl, b1, b2, k _ _ _ _ _ _ l1 ok1 itd_rng q2⟩
    · exact q1.elim⟩⟩
def iEnu (da : DA) : DI := fun c R => da c fun ds c1 => ∃ d xs, ds = [d] ∧ listD d = some xs ∧ R (enumD xs) c1
theorem pdi_enum {a : Expr} {p cpos tpos : Pos} {elts : List Expr} {kk : Nat} (hgl : Gl X "enumerate") (hm : X.mg "enumerate" = none) (ha : PDA X [a] dr) (hs : starEach [a] X.env = [(false, eval a X.env)] := by rfl) :
    PDI X (.Tuple elts kk tpos) (.Call (.Name "enumerate" p) [a] [] cpos) (iEnu dr) :=
  ⟨_, pi_enum hgl hm ha hs, fun σ H Q ⟨as, H0, c, R, ok, q, k⟩ => ⟨as, H0, c, _, ok, q, fun as1 H1 Hn1 c1 vs ds l1 ok1 r1 ⟨d, xs, e, h, q1⟩ => by
    subst e
    obtain ⟨v, rfl, r⟩ := rpa1 r1
    obtain ⟨a, us, rfl, g1, g2⟩ := listD_rp (fun _ _ z => z) r h
    exact ⟨a, us, rfl, seqL_mono ok1.c.ex g1, k _ _ _ _ _ _ l1 ok1 (itd_enum g1 g2) q1⟩⟩⟩
/-- zip of two lists -/
def zipD (xs ys : List D) : List D := xs.zipWith (fun x y => D.tup [x, y]) ys
def iZipD (da : DA) : DI := fun c R => da c fun ds c1 => ∃ d e xs ys, ds = [d, e] ∧ listD d = some xs ∧ listD e = some ys ∧ R (zipD xs ys) c1
/-- for, over whatever is walked -/
theorem pds_for {di : DI} {g : DG} {body : List Stmt} {sb : DS} (hp : PassesOwn (model X.prog X.w) X.A X.env X.xe) (hc : X.calm = true) (hi : PDI X tg e di) (hg : PDG X tg g) (hb : PDB X body sb) (hs : ∀ x, foldedSetIterable e X.env x = pure x := by intro _; rfl) :
    PDS X (.For tg e body [] pos) (sFor di g sb) := by
  obtain ⟨wi, hw, low⟩ := hi.ex
  refine fun W tk => ps_imp (ps_for hp hc hw hg (hb W tk) hs) fun Dn σ H ⟨as, H0, c, DD, ok, q, k⟩ => low _ _ _ ⟨as, H0, c, _, ok, q, fun as1 H1 Hn1 c1 ds J l1 ok1 it ⟨I, i0, st, dn⟩ => ?_⟩
  have k1 := k.mono l1
  refine ⟨fun i m σ' H' => m = ds.length - i ∧ i ≤ ds.length ∧ lowI X.K as1 H1 (I i) σ' H', ⟨_, rfl, Nat.zero_le _, as1, H1, c1, .refl, ok1, i0⟩, ?_⟩
  rintro i m σ' H' ⟨rfl, hi, as2, H2, c2, l2, ok2, i2⟩
  by_cases hlt : i < ds.length
  · refine .inr ⟨it.go _ _ _ _ _ l2 ok2.c hlt, lowI X.K as1 H1 (I (i + 1)), fun σ3 H3 z => ⟨ds.length - (i + 1), by omega, rfl, hlt, z⟩, fun x H3 y => ?_⟩
    obtain ⟨d, hd⟩ : ∃ d, ds[i]? = some d := ⟨_, List.getElem?_eq_getElem hlt⟩
    obtain ⟨H4, l4, oc4, r4⟩ := it.yld _ _ _ _ _ _ _ _ l2 ok2.c hd y
    exact for_low (n := ds.length) k1 (fun c3 i3 => st i d c3 hd i3) ⟨as2, H4, c2, l2.trans l4, ⟨oc4, ok2.e.mono l4⟩, i2, r4⟩
  · have e : i = ds.length := by omega
    subst e
    exact .inl ⟨it.stop _ _ _ _ l2 ok2.c, k1.nx _ _ _ _ _ l2 ok2 (dn c2 i2)⟩

/-! ### list comprehensions -/
/-- targets of names alone -/
inductive TgN where | one (i : Nat) | tup (is : List Nat)
def TgN.vs : TgN → List Nat | .one i => [i] | .tup is => is
def setAll {α : Type} (env : List (Option α)) : List Nat → List α → List (Option α)
  | i :: is, d :: ds => setAll (env.set i (some d)) is ds
  | _, _ => env
def tgSet : TgN → D → List (Option D) → Option (List (Option D))
  | .one i, d, env => some (env.set i (some d))
  | .tup is, .tup ds, env => if ds.length = is.length then some (setAll env is ds) else none
  | _, _, _ => none
def tgLow (K : PySem.W.Frag) : TgN → TG
  | .one i => gName i
  | .tup is => fun v σ H Q => ∃ a xs, v = .ref a ∧ SqT K H a xs ∧ xs.length = is.length ∧ Q (setAll σ is xs) H
theorem wipe_get {σ : L2.St} {j : Nat} : ∀ {vs : List Nat}, (wipe σ vs)[j]? = if j ∈ vs ∧ j < σ.length then some none else σ[j]?
  | [] => by simp [wipe]
  | v :: vs => by
    have ih := wipe_get (σ := σ) (j := j) (vs := vs)
    unfold wipe
    rw [List.getElem?_set]
    have hl := wipe_length σ vs
    rw [hl, ih]
    by_cases h1 : v = j
    · subst h1
      by_cases h2 : v < σ.length <;> simp [h2]
    · have h1' : ¬ j = v := fun z => h1 z.symm
      simp [h1, h1']
theorem setAll_get {α : Type} {j : Nat} : ∀ {is : List Nat} {xs : List α} {env : List (Option α)}, j ∉ is → (setAll env is xs)[j]? = env[j]?
  | [], xs, env, _ => by cases xs <;> rfl
  | i :: is, [], env, _ => rfl
  | i :: is, x :: xs, env, h => by
    have h' : j ≠ i ∧ j ∉ is := by simpa using h
    show (setAll (env.set i (some x)) is xs)[j]? = _
    rw [setAll_get h'.2, List.getElem?_set_ne (Ne.symm h'.1)]
theorem setAll_length {α : Type} : ∀ {is : List Nat} {xs : List α} {env : List (Option α)}, (setAll env is xs).length = env.length
  | [], xs, env => by cases xs <;> rfl
  | i :: is, [], env => rfl
  | i :: is, x :: xs, env => by
    show (setAll (env.set i (some x)) is xs).length = _
    rw [setAll_length, List.length_set]
theorem wipe_set {σ : L2.St} {vs : List Nat} {σ' : L2.St} (hl : σ'.length = σ.length) (h : ∀ j, j ∉ vs → σ'[j]? = σ[j]?) : wipe σ' vs = wipe σ vs := by
  apply List.ext_getElem?
  intro j
  rw [wipe_get, wipe_get, hl]
  by_cases hj : j ∈ vs
  · by_cases h2 : j < σ.length
    · simp [hj, h2]
    · simp only [hj, h2, and_false, if_false]
      rw [List.getElem?_eq_none (by omega), List.getElem?_eq_none (by omega)]
  · simp only [hj, false_and, if_false]
    exact h j hj
theorem okE_wipe {as : AsM} {H0 : Hp} {σ : L2.St} {env : List (Option D)} (h : OkE K as H0 σ env) (vs : List Nat) : OkE K as H0 (L2.wipe σ vs) (vs.foldr (fun v acc => acc.set v none) env) := by
  induction vs with
  | nil => exact h
  | cons v vs ih =>
    have w : L2.wipe σ (v :: vs) = (L2.wipe σ vs).set v none := rfl
    rw [w]
    refine ⟨by show ((vs.foldr _ env).set v none).length = _; rw [List.length_set, List.length_set]; exact ih.len, fun i d e => ?_⟩
    have e' : ((vs.foldr (fun v acc => acc.set v none) env).set v none)[i]? = some (some d) := e
    by_cases hv : v = i
    · subst hv
      rw [List.getElem?_set] at e'
      by_cases hh : v < (vs.foldr (fun v acc => acc.set v none) env).length
      · simp [hh] at e'
      · simp [hh] at e'
    · rw [List.getElem?_set_ne hv] at e'
      obtain ⟨x, a, b⟩ := ih.at_ i d e'
      exact ⟨x, by rw [List.getElem?_set_ne hv]; exact a, b⟩
theorem okE_setAll {as : AsM} {H0 : Hp} : ∀ {is : List Nat} {σ : L2.St} {env : List (Option D)} {vs : List V} {ds : List D}, OkE K as H0 σ env → RpA K as H0 vs ds → OkE K as H0 (DL.setAll σ is vs) (DL.setAll env is ds)
  | [], σ, env, vs, ds, h, r => by cases r <;> exact h
  | i :: is, σ, env, [], _, h, r => by cases r; exact h
  | i :: is, σ, env, v :: vs, d :: ds, h, r => by
    cases r with
    | cons r1 r2 =>
      show OkE K as H0 (DL.setAll (σ.set i (some v)) is vs) (DL.setAll (env.set i (some d)) is ds)
      exact okE_setAll (h.set i r1) r2
def wipeD (env : List (Option D)) (vs : List Nat) : List (Option D) := vs.foldr (fun v acc => acc.set v none) env
def dYes : DT := fun c R => R true c
def lcGo (k : Nat) (g : TgN) (tt : DT) (de : DE) (env : List (Option D)) : List D → List D → Cells → (List D → Cells → Prop) → Prop
  | [], acc, cs, R => R acc cs
  | d :: ds, acc, cs, R => ∃ env', tgSet g d env = some env' ∧ tt ⟨env', put cs k (.lst acc)⟩ fun b c2 => match b with
    | true => de c2 fun y c3 => c3.cs k = some (.lst acc) ∧ acc.length < sizeLine ∧ lcGo k g tt de env ds (acc ++ [y]) (del c3.cs k) R
    | false => c2.cs k = some (.lst acc) ∧ lcGo k g tt de env ds acc (del c2.cs k) R
def dLc (di : DI) (g : TgN) (tt : DT) (de : DE) : DE := fun c R => di c fun ds c1 => ∀ k, c1.cs k = none → lcGo k g tt de (wipeD c1.env g.vs) ds [] c1.cs fun acc cs' => R (.lst acc) { c1 with cs := cs' }
theorem put_del {cs : Cells} {k : Nat} {o : Co} (h : cs k = some o) : put (del cs k) k o = cs := by
  funext j; unfold put del; split
  · rename_i e; rw [e]; exact h.symm
  · rfl
theorem del_self {cs : Cells} {k : Nat} : del cs k k = none := if_pos rfl
/-- the reading of the low side -/
theorem lc_low {wi : TI} {di : DI} {g : TgN} {tt : DT} {de : DE} (low : ∀ σ H (Q : It → Hp → Prop), (∃ as H0 c R, Ok K as H0 H σ c ∧ di c R ∧
    ∀ as1 H01 H1 c1 ds J, Le as H0 as1 H01 → Ok K as1 H01 H1 σ c1 → ItD K as1 H01 J ds → R ds c1 → Q J H1) → wi σ H Q) :
    ∀ σ H Q, lift K (dLc di g tt de) σ H Q → tLc wi (tgLow K g) (liftT K tt) (lift K de) g.vs σ H Q := by
  intro σ H Q ⟨as, H0, c, R, ok, q, k⟩
  refine low _ _ _ ⟨as, H0, c, _, ok, q, fun as1 H1 Hn1 c1 ds J l1 ok1 it q1 => ?_⟩
  intro D hD
  obtain ⟨j, as2, hj, l2, ok2, rp⟩ := new_cell (u := .lst []) (o := .lst []) ok1 hD (.lst .nil)
  have aj : as2 j = some D := by cases rp with | cel h => exact h
  -- between two turns
  let Pv : Nat → Hp → Prop := fun i H' => ∃ as3 H3 acc cs', Le as2 H1 as3 H3 ∧ OkC K as3 H3 H' (put cs' j (.lst acc)) ∧ cs' j = none ∧
    lcGo j g tt de (wipeD c1.env g.vs) (ds.drop i) acc cs' fun acc cs' => R (.lst acc) { c1 with cs := cs' }
  have at_D : ∀ {as3 H3 H' acc cs'}, Le as2 H1 as3 H3 → OkC K as3 H3 H' cs' → cs' j = some (.lst acc) → ∃ vs, H' D = some (.lst vs) ∧ RpA K as3 H3 vs acc := by
    intro as3 H3 H' acc cs' l o e
    obtain ⟨p, u, g1, g2, g3, g4⟩ := o.cel j _ e
    rw [l.am _ _ aj] at g1; cases g1
    cases g4 with
    | lst g5 => exact ⟨_, g3, g5⟩
  refine ⟨fun i m H' => m = ds.length - i ∧ i ≤ ds.length ∧ Pv i H', ⟨_, rfl, Nat.zero_le _, as2, H1, [], c1.cs, .refl, ok2.c, hj, by rw [List.drop_zero]; exact q1 j hj⟩, ?_⟩
  rintro i m H' ⟨rfl, hi, as3, H3, acc, cs', l3, oc3, hj3, go⟩
  by_cases hlt : i < ds.length
  · refine .inr ⟨it.go _ _ _ _ _ (l2.trans l3) oc3 hlt, Pv (i + 1), fun H4 z => ⟨ds.length - (i + 1), by omega, rfl, hlt, z⟩, fun x H4 y => ?_⟩
    obtain ⟨d, hd⟩ : ∃ d, ds[i]? = some d := ⟨_, List.getElem?_eq_getElem hlt⟩
    have hdr : ds.drop i = d :: ds.drop (i + 1) := by
      rw [List.drop_eq_getElem_cons hlt]
      rw [List.getElem?_eq_getElem hlt] at hd
      cases hd; rfl
    rw [hdr] at go
    obtain ⟨env', e1, go⟩ := go
    obtain ⟨H5, l5, oc5, r5⟩ := it.yld _ _ _ _ _ _ _ _ (l2.trans l3) oc3 hd y
    have oe : OkE K as3 H5 (L2.wipe σ g.vs) (wipeD c1.env g.vs) := okE_wipe (ok1.e.mono ((l2.trans l3).trans l5)) g.vs
    -- the target
    have tg : ∀ σ2, L2.wipe σ2 g.vs = L2.wipe σ g.vs → OkE K as3 H5 σ2 env' → L2.wipe σ2 g.vs = L2.wipe σ g.vs ∧ liftT K tt σ2 H4 fun b H6 => if b = true then lift K de σ2 H6 fun y H7 => ∃ acc, H7 D = some (.lst acc) ∧ acc.length < sizeLine ∧ Pv (i + 1) (upd H7 D (.lst (acc ++ [y]))) else Pv (i + 1) H6 := by
      intro σ2 w2 oe2
      refine ⟨w2, as3, H5, ⟨env', put cs' j (.lst acc)⟩, _, ⟨oc5, oe2⟩, go, fun as6 H6 Hn6 c6 b l6 ok6 q6 => ?_⟩
      cases b with
      | true =>
        rw [if_pos rfl]
        refine ⟨as6, H6, c6, _, ok6, q6, fun as7 H7 Hn7 c7 v dv l7 ok7 r7 ⟨e7, h7, q7⟩ => ?_⟩
        have ll := ((l3.trans l5).trans l6).trans l7
        obtain ⟨vs, f1, f2⟩ := at_D ll ok7.c e7
        refine ⟨vs, f1, by rw [f2.length]; exact h7, as7, H7, _, _, ll, ?_, del_self, q7⟩
        have t := ok7.c.turn e7 (ll.am _ _ aj) (.lst (f2.append (.cons r7 .nil)))
        have ep : put (del c7.cs j) j (.lst (acc ++ [dv])) = put c7.cs j (.lst (acc ++ [dv])) := by
          funext b; unfold put del; split <;> rfl
        rw [ep]; exact t
      | false =>
        rw [if_neg Bool.false_ne_true]
        exact ⟨as6, H6, acc, _, (l3.trans l5).trans l6, by rw [put_del q6.1]; exact ok6.c, del_self, q6.2⟩
    cases g with
    | one i' =>
      cases e1
      refine tg _ (wipe_set (by rw [List.length_set, wipe_length]) fun b hb => ?_) (oe.set i' r5)
      have hb' : b ≠ i' := by simpa [TgN.vs] using hb
      rw [List.getElem?_set_ne (Ne.symm hb'), wipe_get]
      simp [TgN.vs, hb']
    | tup is =>
      cases d with
      | tup es =>
        have e1' : (if es.length = is.length then some (setAll (wipeD c1.env is) is es) else none) = some env' := e1
        split at e1'
        · rename_i hl
          cases e1'
          cases r5 with
          | tup g1 g2 =>
            refine ⟨_, _, rfl, seqT_mono oc5.ex g1, by rw [g2.length]; exact hl, ?_⟩
            refine tg _ (wipe_set (by rw [setAll_length, wipe_length]) fun b hb => ?_) (okE_setAll oe g2)
            have hb' : b ∉ is := hb
            rw [setAll_get hb', wipe_get]
            simp [TgN.vs, hb']
        · cases e1'
      | _ => cases e1
  · have e : i = ds.length := by omega
    subst e
    rw [List.drop_length] at go
    obtain ⟨vs, f1, f2⟩ := at_D l3 oc3 put_same
    obtain ⟨l4, oc4⟩ := oc3.freeze put_same (l3.am _ _ aj) f1
    rw [del_put hj3] at oc4
    have l := (l2.trans l3).trans l4
    exact .inl ⟨it.stop _ _ _ _ (l2.trans l3) oc3, k _ _ _ { c1 with cs := cs' } _ _ (l1.trans l) ⟨oc4, ok1.e.mono l⟩ (.lst upd_same (f2.mono l4)) go⟩
theorem pts_yes : PTs X [] (liftT X.K dYes) := ⟨fun pins s σ H Q I ⟨as, H0, c, R, ok, q, k⟩ => pts_nil.run pins s σ H Q I (k _ _ _ _ _ .refl ok q)⟩
theorem pd_lc {elt iter : Expr} {ifs : List Expr} {scope : Scope} {own : List (Str × Nat)} {di : DI} {g : TgN} {tt : DT} {de : DE} (hc : X.calm = true) (hN : X.N.Nodup) (hi : PDI X tg iter di) (ok : BlkOk X.N X.env.scope scope own) (ho : own.map (·.2) = g.vs)
    (hg : ∀ (s : Shared) (H : Hp) (C : Addr) (cl : List (Str × Addr)) (fp : List Addr), PG (X.blk s H scope (compEnvC scope cl C X.env) fp) tg (tgLow X.K g))
    (ht : ∀ (s : Shared) (H : Hp) (C : Addr) (cl : List (Str × Addr)) (fp : List Addr), PTs (X.blk s H scope (compEnvC scope cl C X.env) fp) ifs (liftT X.K tt))
    (he : ∀ (s : Shared) (H : Hp) (C : Addr) (cl : List (Str × Addr)) (fp : List Addr), PD (X.blk s H scope (compEnvC scope cl C X.env) fp) elt de) (hs : ∀ x, foldedSetIterable iter X.env x = pure x := by intro _; rfl) :
    PD X (.ListComp elt [⟨tg, iter, ifs, 0⟩] scope pos) (dLc di g tt de) := by
  obtain ⟨wi, hw, low⟩ := hi.ex
  have h := pe_lc (te := lift X.K de) (pos := pos) hc hN hw ok hg ht he hs
  rw [ho] at h
  exact pe_imp h (lc_low low)
theorem pds_setLc {i : Nat} {y : Str} {py spos : Pos} {elt iter : Expr} {ifs : List Expr} {scope : Scope} {own : List (Str × Nat)} {di : DI} {g : TgN} {tt : DT} {de : DE} (hc : X.calm = true) (hN : X.N.Nodup) (hy : X.N[i]? = some y) (hyl : X.env.scope.names.lookup y = some .local)
    (hsw : swapsWith (.ListComp elt [⟨tg, iter, ifs, 0⟩] scope pos) (some (.Name y py)) spos.line X.env = pure true) (hi : PDI X tg iter di) (ok : BlkOk X.N X.env.scope scope own) (ho : own.map (·.2) = g.vs)
    (hg : ∀ (s : Shared) (H : Hp) (C : Addr) (cl : List (Str × Addr)) (fp : List Addr), PG (X.blk s H scope (compEnvC scope cl C X.env) fp) tg (tgLow X.K g))
    (ht : ∀ (s : Shared) (H : Hp) (C : Addr) (cl : List (Str × Addr)) (fp : List Addr), PTs (X.blk s H scope (compEnvC scope cl C X.env) fp) ifs (liftT X.K tt))
    (he : ∀ (s : Shared) (H : Hp) (C : Addr) (cl : List (Str × Addr)) (fp : List Addr), PD (X.blk s H scope (compEnvC scope cl C X.env) fp) elt de) (hs : ∀ x, foldedSetIterable iter X.env x = pure x := by intro _; rfl) :
    PDS X (.Assign [.Name y py] (.ListComp elt [⟨tg, iter, ifs, 0⟩] scope pos) spos) (sAsg (dLc di g tt de) i) := by
  obtain ⟨wi, hw, low⟩ := hi.ex
  have h := ps_setLc (te := lift X.K de) hc hN hy hyl hsw hw ok hg ht he hs
  rw [ho] at h
  exact fun W tk => ps_imp h fun Dn σ H ⟨as, H0, c, DD, ok, q, k⟩ => lc_low low σ H _ ⟨as, H0, c, _, ok, q, fun as1 H1 Hn c1 v d l1 ok1 r1 q1 =>
    k.nx _ _ _ _ _ l1 (⟨ok1.c, ok1.e.set i r1⟩ : Ok X.K as1 H1 Hn (σ.set i (some v)) { c1 with env := c1.env.set i (some d) }) q1⟩
end
/-- a plain one: nothing but values -/
theorem lc_plain {k : Nat} {g : TgN} {tt : DT} {de : DE} {env : List (Option D)} {b : D → Bool} {f : D → D} {R : List D → Cells → Prop} : ∀ {ds acc : List D} {cs : Cells}, cs k = none →
    (∀ d ∈ ds, ∃ env', tgSet g d env = some env' ∧ (∀ cs (Q : Bool → Z → Prop), Q (b d) ⟨env', cs⟩ → tt ⟨env', cs⟩ Q) ∧ (b d = true → ∀ cs (Q : D → Z → Prop), Q (f d) ⟨env', cs⟩ → de ⟨env', cs⟩ Q)) →
    acc.length + ds.length ≤ sizeLine → R (acc ++ (ds.filter b).map f) cs → lcGo k g tt de env ds acc cs R
  | [], acc, cs, hk, h, hl, q => by
    show R acc cs
    simpa using q
  | d :: ds, acc, cs, hk, h, hl, q => by
    obtain ⟨env', e, h1, h2⟩ := h d List.mem_cons_self
    refine ⟨env', e, h1 _ _ ?_⟩
    rw [List.length_cons] at hl
    cases hb : b d with
    | true =>
      refine h2 hb _ _ ⟨put_same, by omega, ?_⟩
      show lcGo k g tt de env ds (acc ++ [f d]) (del (put cs k (.lst acc)) k) R
      rw [del_put hk]
      refine lc_plain hk (fun x hx => h x (List.mem_cons_of_mem _ hx)) (by rw [List.length_append, List.length_singleton]; omega) ?_
      rw [List.filter_cons_of_pos hb, List.map_cons] at q
      rw [List.append_assoc]; exact q
    | false =>
      refine ⟨put_same, ?_⟩
      show lcGo k g tt de env ds acc (del (put cs k (.lst acc)) k) R
      rw [del_put hk]
      refine lc_plain hk (fun x hx => h x (List.mem_cons_of_mem _ hx)) (by omega) ?_
      rw [List.filter_cons_of_neg (by rw [hb]; exact Bool.false_ne_true)] at q
      exact q

/-! ### str of ints -/
def fStr : DFn := fun ds c R => match ds with
  | [.int i] => (-(2 ^ 200) < i ∧ i < 2 ^ 200) ∧ R (.str (toString i)) c
  | [.str s] => R (.str s) c
  | _ => False
section
variable {K : PySem.W.Frag} {X : Cx}
def rStr : List V → Hp → VK → Prop := fun xs H Q => (∃ i, xs = [V.int i] ∧ i.natAbs.log2 < 1920 ∧ Q (.str (toString i)) H) ∨ (∃ a, xs = [V.str a] ∧ Q (.str a) H)
theorem call_str : CallR X (.type "str") rStr := callR_or call_str_int SkE.call_str_str
theorem callD_str : CallD K rStr fStr := by
  intro as H0 H σ c vs ds R Q ok r h k
  unfold fStr at h
  split at h
  · obtain ⟨v, rfl, r1⟩ := rpa1 r; cases r1; exact .inl ⟨_, rfl, by have := log_small h.1; omega, k _ _ _ _ _ _ .refl ok (.str _) h.2⟩
  · obtain ⟨v, rfl, r1⟩ := rpa1 r; cases r1; exact .inr ⟨_, rfl, k _ _ _ _ _ _ .refl ok (.str _) h⟩
  · exact h.elim
end

/-! ### repr, of {} too -/
section
variable {K : PySem.W.Frag} {X : Cx}
def fReprD : DFn := fun ds c R => match ds with
  | [.dic kvs] => kvs = [] ∧ R (.str (PyData.dict []).shown) c
  | ds => fRepr ds c R
end

theorem fStr_i {i : Int} {c : Z} {R : D → Z → Prop} : fStr [.int i] c R = ((-(2 ^ 200) < i ∧ i < 2 ^ 200) ∧ R (.str (toString i)) c) := rfl
theorem fReprD_d {c : Z} {R : D → Z → Prop} : fReprD [.dic []] c R = R (.str (PyData.dict []).shown) c := propext ⟨fun h => h.2, fun h => ⟨rfl, h⟩⟩
theorem e_enum {dr : DA} {c : Z} {RL : List D → Z → Prop} : iEnu dr c RL = dr c fun ds c1 => ∃ d xs, ds = [d] ∧ listD d = some xs ∧ RL (enumD xs) c1 := rfl
theorem e_zip {dr : DA} {c : Z} {RL : List D → Z → Prop} : iZipD dr c RL = dr c fun ds c1 => ∃ d e xs ys, ds = [d, e] ∧ listD d = some xs ∧ listD e = some ys ∧ RL (zipD xs ys) c1 := rfl
theorem e_gtp {gs : List DG} {ds : List D} {c : Z} {RZ : Z → Prop} : gTp gs (.tup ds) c RZ = (ds.length = gs.length ∧ gList gs ds c RZ) :=
  propext ⟨fun ⟨_, e, h, q⟩ => by cases e; exact ⟨h, q⟩, fun ⟨h, q⟩ => ⟨_, rfl, h, q⟩⟩
end DL

namespace DL
open PySem L2

/-! ### try .. except -/
section
variable {K : PySem.W.Frag} {as : AsM} {H0 : Hp}
theorem okE_none {σ : L2.St} {env : List (Option D)} (h : OkE K as H0 σ env) (i : Nat) : OkE K as H0 (σ.set i none) (env.set i none) := by
  refine ⟨by rw [List.length_set, List.length_set]; exact h.len, fun j d e => ?_⟩
  by_cases hv : i = j
  · subst hv
    rw [List.getElem?_set] at e
    by_cases hh : i < env.length
    · simp [hh] at e
    · simp [hh] at e
  · rw [List.getElem?_set_ne hv] at e
    obtain ⟨x, a, b⟩ := h.at_ j d e
    exact ⟨x, by rw [List.getElem?_set_ne hv]; exact a, b⟩
end
section
variable {X : Cx} {x n : Str} {c : Value} {i : Nat} {body suite : List Stmt} {b₀ : Stmt} {np pos pos' : Pos} {sb : DS} {sub : Str → Option Bool}
end

/-! ### isinstance of the caught one -/
/-- a name of a class, as a value -/
structure ClsN (X : Cx) (e : Expr) (cv : Value) : Prop where
  ex : ∃ v, PE X e (tC v) ∧ ClsV v cv
section
variable {X : Cx} {x : Str} {pos p p2 : Pos} {i : Nat}
theorem clsN_own {C : Addr} (hg : Gl X x) (hm : X.mg x = some (.ref C)) (hd : (x == ("__debug__" : Str)) = false := by decide) : ClsN X (.Name x pos) (.ref C) := ⟨.ref C, pe_glob hg hm rfl hd, .own C⟩
theorem clsN_ty {n : String} (hg : Gl X x) (hm : X.mg x = none) (hv : bootBuiltins x = some (.type n)) (hn : x ≠ "__name__" := by decide) (hd : (x == ("__debug__" : Str)) = false := by decide) : ClsN X (.Name x pos) (.type n) := ⟨.ty n, pe_bltn (v := .ty n) hg hm hv rfl hn hd, .ty n⟩
variable {a D : Addr} {oe : Obj} {d : Option Addr} {pn : List (Addr × Obj)} {e : Expr} {ob : Option Bool} {cv cv2 : Value}
end

/-- as a plain call, where nothing may be raised -/
theorem FnG.quiet {P : Program} {w : World} {K : PySem.W.Frag} {mg : Str → Option Value} {base : Heap} {k : Nat} {f : Addr} {fd : FuncData} {ps : List Str} {sem : SemX} (F : FnG P w K mg base (L2.CX P w) k f fd ps (FnDX K mg sem)) : FnG P w K mg base CX0 k f fd ps (FnD K (semN sem)) :=
  ⟨fun vs H Q E ⟨as, H0, ds, cs, R, oc, rd, sm, q⟩ => F.len vs H Q E0 ⟨as, H0, ds, cs, R, fun _ _ => False, oc, rd, sm, q, fun _ _ _ _ _ _ _ _ _ _ _ z => z.elim⟩,
   fun A outer s H args us vs Q E hg hr en bt rv ⟨as, H0, ds, cs, R, oc, rd, sm, q⟩ => codeAny_mono (F.run A outer s H args us vs Q E0 hg hr en bt rv ⟨as, H0, ds, cs, R, fun _ _ => False, oc, rd, sm, q, fun _ _ _ _ _ _ _ _ _ _ _ z => z.elim⟩) fun r s' h => by
    cases r with
    | error e =>
      obtain ⟨_, _, _, _, _, _, _, _, _, _, _, _, z⟩ := h
      exact z.elim
    | ok fl =>
      cases fl with
      | ret u => exact h
      | _ => exact False.elim h⟩

/-! ### append -/
section
variable {X : Cx} {o e : Expr} {do_ da : DE} {apos cpos : Pos}
def dApp (do_ da : DE) : DE := fun c R => do_ c fun o c1 => match o with
  | .cel k => (∃ ds0, c1.cs k = some (.lst ds0)) ∧ da c1 fun v c2 => ∃ ds, c2.cs k = some (.lst ds) ∧ ds.length < sizeLine ∧ R .non { c2 with cs := put c2.cs k (.lst (ds ++ [v])) }
  | _ => False
theorem pd_append (ho : PD X o do_) (he : PD X e da)
    (hbase : attributeBase o "append" X.env (eval o X.env) = eval o X.env := by rfl)
    (hfew : ((backTo cpos (starEach [e] X.env)).all (fun x => !x.1) && (backToKw cpos (keywordEach [] X.env)).all (fun x => x.1.isSome)
      && decide (([e] : List Expr).length + ([] : List Keyword).length + (if ([] : List Keyword).isEmpty then 0 else 1) < 30)) = true := by rfl)
    (hline : (apos.endLine == cpos.line) = true := by rfl) (hs : starEach [e] X.env = (false, eval e X.env) :: starEach [] X.env := by rfl) :
    PD X (.Call (.Attribute o "append" apos) [e] [] cpos) (dApp do_ da) := by
  refine ⟨fun pins s σ H Q I ⟨as, H0, c, R, ok, q, k⟩ => ?_⟩
  refine (pe_bm (cpos := cpos) PySem.F.plainAttrs_list PySem.F.slot_list_append PySem.F.type_list_append mt_append ho (pda_cons he pda_nil hs) hbase hfew hline hs rfl).run pins s σ H Q I
    ⟨as, H0, c, _, ok, q, fun as1 H1 Hn1 c1 v d l1 ok1 r1 q1 => ?_⟩
  cases d with
  | cel j =>
    obtain ⟨⟨ds0, e0⟩, q1⟩ := q1
    obtain ⟨p, us, rfl, ap, g3, g4⟩ := cell_lst ok1 r1 e0
    refine ⟨.inl ⟨rfl, us, SqL.of g3⟩, as1, H1, c1, _, ok1, (show dCons da dNil c1 (fun ds c2 => match ds with | [v] => ∃ ds, c2.cs j = some (.lst ds) ∧ ds.length < sizeLine ∧ R .non { c2 with cs := put c2.cs j (.lst (ds ++ [v])) } | _ => False) from q1), fun as2 H2 Hn2 c2 vs ds l2 ok2 rd h => ?_⟩
    match ds, h with
    | [v], ⟨ds1, h1, h2, h3⟩ =>
    obtain ⟨u, rfl, ru⟩ := rpa1 rd
    obtain ⟨p', us', e3, ap', g5, g6⟩ := cell_lst ok2 (.cel (l2.am _ _ ap)) h1
    cases e3
    refine ⟨p, us', u, rfl, rfl, g5, by rw [g6.length]; exact h2, ?_⟩
    exact k _ _ _ _ _ _ (l1.trans l2) (cell_set ok2 h1 ap' (.lst (g6.append (.cons ru .nil)))) .non h3
  | _ => exact q1.elim
end
end DL

/-! word in row of words: the word may be any thing -/
namespace PySem.SeqAt
open AutoSeq1 (wpAny_loadPart')
open MeetsSeq
section
variable {P : Program} {w : World} {A : Around} {E : Value → Shared → Prop} {s : Shared}
end
end PySem.SeqAt
namespace DL
open L2 PySem PyProof.Rows
section
variable {X : Cx} {K : PySem.W.Frag}
end
end DL
namespace DL
end DL

/-! ### three names at once -/
namespace DL
open L2 PySem PyProof.Rows
section
variable {X : Cx}
def sPar3 (i j l : Nat) (da : DA) : DS := fun DD c => da c fun ds c1 => match ds with
  | [d1, d2, d3] => DD.nx { c1 with env := ((c1.env.set i (some d1)).set j (some d2)).set l (some d3) }
  | _ => False
theorem e_par3 {i j l : Nat} {da : DA} {DD : DEnds} {c : Z} : sPar3 i j l da DD c = da c fun ds c1 => match ds with
  | [d1, d2, d3] => DD.nx { c1 with env := ((c1.env.set i (some d1)).set j (some d2)).set l (some d3) }
  | _ => False := rfl
end
end DL

namespace DL
open L2 PySem PyProof.Rows
/-! ### a key in a dict -/
section
variable {X : Cx} {K : PySem.W.Frag}
theorem look_some {as : AsM} {H : Hp} {k : Key} : ∀ {ds : List (Key × D)} {vs : List (Key × V)}, RpK K as H vs ds → (valV vs k).isSome = (lookD ds k).isSome
  | [], _, h => by cases h; rfl
  | (j, x) :: ds, _, h => by
    cases h with
    | cons h1 h2 =>
      have ih := look_some (k := k) h2
      by_cases q : j = k
      · simp [valV, lookD, q]
      · simp [valV, lookD, q] at ih ⊢
        exact ih
end
/-! ### how many of a list -/
section
variable {X : Cx} {K : PySem.W.Frag} {o e : Expr} {do_ da : DE} {apos cpos : Pos}
theorem count_eqU {x : V} : ∀ {xs : List V} {us : List Value}, Vals xs us → xs.all flatV = true → us.countP (eqU x) = xs.countP fun y => eqV y x
  | _, _, .nil, _ => rfl
  | y :: xs, u :: us, .cons r t, f => by
    rw [List.all_cons, Bool.and_eq_true] at f
    rw [List.countP_cons, List.countP_cons, eqU_of r f.1, count_eqU t f.2]
def rCntF (K : PySem.W.Frag) : V → List V → Hp → VK → Prop := fun x xs H Q => ∃ (p : Addr) (ys : List V) (y : V), x = .ref p ∧ xs = [y] ∧ SqL K H p ys ∧ flatV y = true ∧ ys.all flatV = true ∧ Q (.int ((ys.countP fun z => eqV z y : Nat) : Int)) H
theorem mt_cntF : MtR X "list.count" (rCntF X.K) := by
  intro pins s σ H x xs v us Q I rx rxs h
  obtain ⟨p, ys, y, rfl, rfl, hs, fy, fys, q⟩ := h
  cases rx
  obtain ⟨u, rfl, ru⟩ := rxs.one
  obtain ⟨its, rv, ⟨⟨cls, dd, data, sl⟩, n, ho, hc, hdn, hd⟩, hlen⟩ := I.list hs
  simp only at hc hd
  subst hc hd
  refine call_meets PySem.F.slot_list_count ⟨_, ho, rfl⟩ PySem.F.entry_list_count (PySem.F.args_list_count_2 _ _)
    (SeqAt.list_countAt p its.toArray n dd sl u (eqU y)) ⟨ho, fun w hw => mem_eqAt ru fy rv fys w (by simpa using hw), ?_⟩
  refine ⟨.int ((ys.countP fun z => eqV z y : Nat) : Int), H, I.tok _, ⟨s.toks, ?_⟩, q⟩
  show Value.int ((its.toArray.toList.countP (eqU y) : Nat) : Int) s.toks = _
  rw [show its.toArray.toList = its by simp, count_eqU rv fys]
theorem cnt_rp {as : AsM} {H : Hp} {u : V} {e : D} (r' : Rp K as H u e) (h' : flatD e = true) : ∀ {ds : List D} {vs : List V}, RpA K as H vs ds → ds.all flatD = true → (vs.countP fun z => eqV z u) = ds.countP fun d => eqF d e
  | [], _, r, h => by cases r; rfl
  | d :: ds, _, r, h => by
    cases r with
    | cons r1 r2 =>
      have hh := Bool.and_eq_true_iff.mp (show (flatD d && ds.all flatD) = true from h)
      rw [List.countP_cons, List.countP_cons, cnt_rp r' h' r2 hh.2, eqF_rp r1 r' hh.1 h']
def dCnt (do_ da : DE) : DE := fun c R => do_ c fun o c1 => ∃ ds, o = .lst ds ∧ da c1 fun v c2 => flatD v = true ∧ ds.all flatD = true ∧ R (.int ((ds.countP fun d => eqF d v : Nat) : Int)) c2
theorem pd_count (ho : PD X o do_) (he : PD X e da)
    (hbase : attributeBase o "count" X.env (eval o X.env) = eval o X.env := by rfl)
    (hfew : ((backTo cpos (starEach [e] X.env)).all (fun x => !x.1) && (backToKw cpos (keywordEach [] X.env)).all (fun x => x.1.isSome)
      && decide (([e] : List Expr).length + ([] : List Keyword).length + (if ([] : List Keyword).isEmpty then 0 else 1) < 30)) = true := by rfl)
    (hline : (apos.endLine == cpos.line) = true := by rfl) (hs : starEach [e] X.env = (false, eval e X.env) :: starEach [] X.env := by rfl) :
    PD X (.Call (.Attribute o "count" apos) [e] [] cpos) (dCnt do_ da) := by
  refine ⟨fun pins s σ H Q I ⟨as, H0, c, R, ok, q, k⟩ => ?_⟩
  refine (pe_bm (cpos := cpos) PySem.F.plainAttrs_list PySem.F.slot_list_count PySem.F.type_list_count mt_cntF ho (pda_cons he pda_nil hs) hbase hfew hline hs rfl).run pins s σ H Q I
    ⟨as, H0, c, _, ok, q, fun as1 H1 Hn1 c1 v d l1 ok1 r1 q1 => ?_⟩
  obtain ⟨ds, rfl, q1⟩ := q1
  cases r1 with
  | lst g1 g2 =>
    rename_i a us
    have g1' := ok1.c.ex _ _ g1
    refine ⟨.inl ⟨rfl, us, SqL.of g1'⟩, as1, H1, c1, _, ok1, (show dCons da dNil c1 (fun vs c2 => match vs with | [v] => flatD v = true ∧ ds.all flatD = true ∧ R (.int ((ds.countP fun d => eqF d v : Nat) : Int)) c2 | _ => False) from q1), fun as2 H2 Hn2 c2 vs ws l2 ok2 rd h => ?_⟩
    match ws, h with
    | [v], ⟨h1, h2, h3⟩ =>
    obtain ⟨u, rfl, ru⟩ := rpa1 rd
    have g2' := RpA.mono l2 g2
    refine ⟨a, us, u, rfl, rfl, SqL.of (ok2.c.ex _ _ (l2.hp _ _ g1)), flat_rp ru h1, flats_rp g2' h2, ?_⟩
    rw [cnt_rp ru h1 g2' h2]
    exact k _ _ _ _ _ _ (l1.trans l2) ok2 (.int _) h3
end
end DL

namespace DL
open L2 PySem PyProof.Rows
def onCel (o : D) (f : Nat → Prop) : Prop := match o with | .cel k => f k | _ => False
theorem onCel_c {k : Nat} {f : Nat → Prop} : onCel (.cel k) f = f k := rfl
theorem onCel_of {o : D} {f : Nat → Prop} (h : onCel o f) : ∃ k, o = .cel k ∧ f k := by
  cases o <;> first | exact ⟨_, rfl, h⟩ | exact h.elim
def onDic (o : D) (f : List (Key × D) → Prop) : Prop := match o with | .dic k => f k | _ => False
theorem onDic_d {k : List (Key × D)} {f : List (Key × D) → Prop} : onDic (.dic k) f = f k := rfl
theorem onDic_of {o : D} {f : List (Key × D) → Prop} (h : onDic o f) : ∃ k, o = .dic k ∧ f k := by
  cases o <;> first | exact ⟨_, rfl, h⟩ | exact h.elim
def onKey (o : D) (f : Key → Prop) : Prop := match o with | .int i => f (.inl i) | .str s => f (.inr s) | _ => False
theorem onKey_i {i : Int} {f : Key → Prop} : onKey (.int i) f = f (.inl i) := rfl
theorem onKey_s {i : Str} {f : Key → Prop} : onKey (.str i) f = f (.inr i) := rfl
theorem onKey_of {o : D} {f : Key → Prop} (h : onKey o f) : ∃ k, keyD o = some k ∧ f k := by
  cases o <;> first | exact ⟨_, rfl, h⟩ | exact h.elim
/-! ### a changing thing's last reading -/
section
variable {X : Cx} {K : PySem.W.Frag} {e a b : Expr} {da db : DE} {pos : Pos}
def dFrz (da : DE) : DE := fun c R => da c fun d c1 => onCel d fun k => ∃ ds, c1.cs k = some (.lst ds) ∧ R (.lst ds) { c1 with cs := del c1.cs k }
theorem pd_frz (ha : PD X e da) : PD X e (dFrz da) := pe_imp ha fun σ H Q ⟨as, H0, c, R, ok, q, k⟩ => ⟨as, H0, c, _, ok, q, fun as1 H1 Hn1 c1 v d l1 ok1 r1 q0 => by
  obtain ⟨j, e1, ds, e2, q1⟩ := onCel_of q0
  subst e1
  cases r1 with
  | cel ej =>
    rename_i p
    obtain ⟨p', u, g1, g2, g3, g4⟩ := ok1.c.cel j _ e2
    rw [ej] at g1; cases g1
    cases g4 with
    | lst g5 =>
      obtain ⟨l, oc⟩ := ok1.c.freeze e2 ej g3
      exact k _ _ _ { c1 with cs := del c1.cs j } _ _ (l1.trans l) ⟨oc, ok1.e.mono l⟩ (.lst upd_same (g5.mono l)) q1⟩
def dFrzD (da : DE) : DE := fun c R => da c fun d c1 => onCel d fun k => ∃ ds, c1.cs k = some (.dic ds) ∧ R (.dic ds) { c1 with cs := del c1.cs k }
/-! ### dicts that change -/
def cellD : Option Co → Option (List (Key × D)) | some (.dic kvs) => some kvs | some (.fdic _ _ kvs) => some kvs | _ => none
theorem cellD_dic {k : List (Key × D)} : cellD (some (.dic k)) = some k := rfl
theorem cellD_fdic {od : Obj} {vs : List (Key × V)} {k : List (Key × D)} : cellD (some (.fdic od vs k)) = some k := rfl
theorem key_rp {as : AsM} {H : Hp} {v : V} {d : D} {k : Key} (r : Rp K as H v d) (h : keyD d = some k) : v = kV k := by
  cases r <;> first | (cases h; rfl) | cases h
/-- {} that will change -/
def dDNewC : DE := fun c R => ∀ k, c.cs k = none → R (.cel k) { c with cs := put c.cs k (.dic []) }
def dIxC : DF := fun x y c R => onCel x fun k => onKey y fun key => ∃ kvs, cellD (c.cs k) = some kvs ∧ ∃ d, lookD kvs key = some d ∧ R d c
def rInR (neg : Bool) : R2 := fun x y H Q => ∃ p kvs k, y = .ref p ∧ x = kV k ∧ Rd H p (.dK kvs) ∧ Q (.bl (if neg then !(valV kvs k).isSome else (valV kvs k).isSome)) H
theorem op_inR (hu : X.A.units + 64 < cLine) : OpR X (compareOp .In) (rInR false) := by
  intro pins s σ H x y v u Q I rx ry h
  obtain ⟨p, kvs, k, rfl, rfl, e, q⟩ := h
  cases ry
  exact d_in (by omega) I (.inl ⟨kvs, k, e, rfl, rfl⟩) rx fun s3 I3 => ⟨.bl _, H, I3, rfl, q⟩
def dInCN (neg : Bool) : DF := fun x y c R => onCel y fun j => onKey x fun k => ∃ kvs, cellD (c.cs j) = some kvs ∧ R (.bl (if neg then !(lookD kvs k).isSome else (lookD kvs k).isSome)) c
def dInC : DF := dInCN false
def dNotInC : DF := dInCN true
def dUpd (do_ da : DE) : DE := fun c R => do_ c fun o c1 => onCel o fun k => (∃ kvs, c1.cs k = some (.dic kvs)) ∧ da c1 fun v c2 => onDic v fun more => ∃ kvs, c2.cs k = some (.dic kvs) ∧ kvs.length + more.length ≤ sizeLine ∧ R .non { c2 with cs := put c2.cs k (.dic (mergeD kvs more)) }
variable {o : Expr} {do_ : DE} {apos cpos : Pos}
end
theorem putD_new {kvs : List (Key × D)} {k : Key} {d : D} (h : k ∉ kvs.map (·.1)) : putD kvs k d = kvs ++ [(k, d)] := by
  unfold putD
  rw [if_neg]
  rw [List.any_eq_true]
  rintro ⟨kv, hkv, e⟩
  exact h (List.mem_map.mpr ⟨kv, hkv, of_decide_eq_true e⟩)
theorem mergeD_app : ∀ {more kvs : List (Key × D)}, (kvs.map (·.1) ++ more.map (·.1)).Nodup → mergeD kvs more = kvs ++ more
  | [], kvs, _ => (List.append_nil _).symm
  | (k, d) :: more, kvs, h => by
    have h1 : k ∉ kvs.map (·.1) := fun z => by
      rw [List.map_cons, List.nodup_append] at h
      exact h.2.2 k z k List.mem_cons_self rfl
    show mergeD (putD kvs k d) more = _
    rw [putD_new h1, mergeD_app (by rw [List.map_append, List.append_assoc]; exact h), List.append_assoc]; rfl
/-! ### a walk over a dict -/
section
variable {X : Cx} {K : PySem.W.Frag} {tg : Expr} {body : List Stmt} {pos p : Pos} {sb : DS} {g : DG} {x : Str}
end
end DL

namespace DL
open L2 PySem PyProof.Rows
def dTidy (da : DE) : DE := fun c R => da c fun d c1 => ∃ cs', (∀ k o, cs' k = some o → c1.cs k = some o) ∧ R d { c1 with cs := cs' }
theorem OkC.sub {K : PySem.W.Frag} {as : AsM} {H0 H : Hp} {cs cs' : Cells} (h : OkC K as H0 H cs) (hs : ∀ k o, cs' k = some o → cs k = some o) : OkC K as H0 H cs' := by
  have low : ∀ k, cs' k ≠ none → cs k ≠ none := fun k z => by
    cases q : cs' k with
    | none => exact absurd q z
    | some o => rw [hs k o q]; exact Option.some_ne_none o
  exact ⟨h.ex, h.fin, fun k o e => h.cel k o (hs k o e), fun k k' p e1 e2 c1 c2 => h.inj k k' p e1 e2 (low k c1) (low k' c2)⟩
section
variable {X : Cx} {K : PySem.W.Frag} {e a b : Expr} {da db : DE} {pos : Pos}
/-- things that change no more are forgotten -/
theorem pd_tidy (ha : PD X e da) : PD X e (dTidy da) := pe_imp ha fun σ H Q ⟨as, H0, c, R, ok, q, k⟩ => ⟨as, H0, c, _, ok, q, fun as1 H1 Hn1 c1 v d l1 ok1 r1 ⟨cs', h, q1⟩ => k _ _ _ { c1 with cs := cs' } _ _ l1 ⟨ok1.c.sub h, ok1.e⟩ r1 q1⟩
/-! ### is, of truths -/
def dIsB : DF := fun x y c R => match x, y with | .bl a, .bl b => R (.bl (decide (a = b))) c | _, _ => False
theorem e_isB {x y : Bool} {c : Z} {R : D → Z → Prop} : dIsB (.bl x) (.bl y) c R = R (.bl (decide (x = y))) c := rfl
/-! ### a list to names -/
/-! ### tuple of a list -/
def fTupOf : DFn := fun ds c R => match ds with
  | [.lst xs] => R (.tup xs) c | [.slst xs] => R (.tup xs) c | [.tup xs] => R (.tup xs) c | _ => False
theorem callD_tupOf : CallD K (fun xs H Q => ∃ p ys, xs = [V.ref p] ∧ ((SqL K H p ys ∧ ∀ l, H l = none → Q (.ref l) (upd H l (.tup ys))) ∨ (SqT K H p ys ∧ Q (.ref p) H))) fTupOf := by
  intro as H0 H σ c vs ds R Q ok r h k
  unfold fTupOf at h
  split at h
  · obtain ⟨v, rfl, r1⟩ := rpa1 r
    cases r1 with
    | lst g1 g2 =>
      refine ⟨_, _, rfl, .inl ⟨SqL.of (ok.c.ex _ _ g1), fun l hl => ?_⟩⟩
      obtain ⟨l', ok'⟩ := new_known (o := .tup _) ok hl
      exact k _ _ _ _ _ _ l' ok' (rp_tup l' g2) h
  · obtain ⟨v, rfl, r1⟩ := rpa1 r
    cases r1 with
    | slst g1 g2 =>
      refine ⟨_, _, rfl, .inl ⟨seqL_mono ok.c.ex g1, fun l hl => ?_⟩⟩
      obtain ⟨l', ok'⟩ := new_known (o := .tup _) ok hl
      exact k _ _ _ _ _ _ l' ok' (rp_tup l' g2) h
  · obtain ⟨v, rfl, r1⟩ := rpa1 r
    cases r1 with
    | tup g1 g2 => exact ⟨_, _, rfl, .inr ⟨seqT_mono ok.c.ex g1, k _ _ _ _ _ _ .refl ok (.tup g1 g2) h⟩⟩
  · exact h.elim
/-! ### sorted, of ints -/
/-! ### bits of an int -/
def dBits (da : DE) : DE := fun c R => da c fun x c1 => match x with | .int i => R (.int (Builtin.Int.intBits i : Nat)) c1 | _ => False
/-! ### where in a list -/
end
end DL

namespace DL
open L2 PySem PyProof.Rows
section
variable {X : Cx} {K : PySem.W.Frag} {k n : Nat} {f : Addr} {fd : FuncData} {ps ks : List Str} {sem : Sem} {gD : List D → List D → List D} {x : Str} {p pos : Pos} {kws : List Keyword} {dk : DA}
/-! ### a call by keywords alone -/
/-! ### max and min of a list of ints -/
end
end DL

/-! an exception that is kept behind its suite, isinstance of such -/
namespace DL
open L2 PySem PySem.Spec PyProof.Rows
section
variable {X : Cx} {pins : List (Addr × Obj)} {σ : L2.St} {H : Hp} {s : Shared}
/-- an object that stands, and is new since the entry, is tracked from here on -/
theorem Inv.track {a : Addr} {o : HO} (I : L2.Inv X pins σ H s) (na : H a = none) (n0 : X.s_0.heap.get? a = none) (nL : a ≠ X.env.locals) (nC : ∀ x c, X.env.cells.lookup x = some c → c ≠ a) (nP : ∀ p ∈ X.pn ++ pins, p.1 ≠ a)
    (new : ObjOk X.prog X.w (upd H a o) s.heap a o) : L2.Inv X pins σ (upd H a o) s := by
  have ne0 : ∀ b u, X.s_0.heap.get? b = some u → b ≠ a := fun b u e z => by rw [z, n0] at e; cases e
  have neH : ∀ b u, H b = some u → b ≠ a := fun b u e z => by rw [z, na] at e; cases e
  refine ⟨I.ok, I.os, I.bare, ⟨I.base.keep, I.base.slot, fun b u e n hq => ?_, I.base.there, fun b xs e => ?_, fun b ob u e => ?_, fun b ps e => ?_⟩, I.loc, I.cell, ?_, fun x c e => ?_, fun p hp => ?_, fun b u e => ?_, I.len⟩
  · rw [upd_ne (ne0 b u e)]; exact I.base.free b u e n hq
  · have q := I.base.tups b xs e
    rw [upd_ne (neH b _ q)]; exact q
  · have q := I.base.frzs b ob u e
    rw [upd_ne (neH b _ q)]; exact q
  · obtain ⟨m, q⟩ := I.base.tbls b ps e
    exact ⟨m, by rw [upd_ne (neH b _ q)]; exact q⟩
  · rw [upd_ne (Ne.symm nL)]; exact I.free
  · rw [upd_ne (nC x c e)]; exact I.freeC x c e
  · obtain ⟨e, n, ne, nf, d⟩ := I.pin p hp
    exact ⟨e, by rw [upd_ne (nP p hp)]; exact n, ne, nf, d⟩
  · by_cases hb : b = a
    · subst hb; rw [upd_same] at e; cases e; exact new
    · rw [upd_ne hb] at e
      exact (I.hok b u e).stay (fun c v _ q => q) (fun c q => by rw [upd_ne (neH c _ q)]; exact q) fun c xs q => by rw [upd_ne (neH c _ q)]; exact q
theorem Inv.suite0 (I : L2.Inv X pins σ H s) (a : Addr) : L2.Inv (X.suite a (X.pn ++ pins)) [] σ H s :=
  ⟨I.ok.suite _ _, I.os, I.bare, I.base, I.loc, I.cell, I.free, I.freeC, fun p hp => I.pin p (by rw [List.append_nil] at hp; exact hp), I.hok, I.len⟩
theorem Inv.unsuite0 {a : Addr} {pn' : List (Addr × Obj)} (I : L2.Inv (X.suite a (X.pn ++ pins)) pn' σ H s) (ok : X.Ok) : L2.Inv X pins σ H s :=
  ⟨ok, I.os, I.bare, I.base, I.loc, I.cell, I.free, I.freeC, fun p hp => I.pin p (List.mem_append_left _ hp), I.hok, I.len⟩
theorem exH_ok {P : Program} {w : World} {h : Heap} {a : Addr} {cls : Value} {d : Option Addr} {oe : Obj} {vs : Array Value} (e : h.get? a = some oe) (z : Zc cls d oe) (q : oe.data = .fields vs) : ObjOk P w H h a (ExH cls d a) :=
  ⟨⟨oe, e, z, vs, q⟩, ⟨oe, e⟩, fun _ _ ⟨o, q, r⟩ k => ⟨o, k o q, r⟩⟩
end
/-- what the clause wishes: the exception is tracked from then on -/
def wKp (K : PySem.W.Frag) (c : Value) (i : Nat) (ts : Value → Option Addr → TS) (Wout : WX) (D : Ends) : WX := fun cls d σ H =>
  ∃ b, PySem.W.exmOne K cls c = some b ∧ (b = true → ∀ a, H a = none → ts cls d { nx := fun σ' H' => D.nx (σ'.set i none) H', rt := D.rt, bk := fun σ' H' => D.bk (σ'.set i none) H', ct := fun σ' H' => D.ct (σ'.set i none) H' } (σ.set i (some (.ref a))) (upd H a (ExH cls d a))) ∧
    (b = false → Wout cls d σ H)
section
variable {X : Cx} {x n : Str} {c : Value} {i : Nat} {body suite : List Stmt} {b₀ : Stmt} {np pos pos' : Pos} {tb : WX → TS} {ts : Value → Option Addr → TS} {Wout : WX}
theorem ps_try_keep (hs : X.stack = X.env :: X.outer) (hf : X.env.frame = some X.env.locals) (hex : X.ex = []) (hN : X.N.Nodup) (hi : X.N[i]? = some n) (hln : X.env.kindOf n = some .local) (hc : Names X x c) (tk : Takes X Wout)
    (hb : ∀ (W : WX) (pn : List (Addr × Obj)) (xe : Value → Shared → Prop), Takes (X.tr pn xe) W → PassesOwn (model X.prog X.w) X.A X.env xe → PSs (X.tr pn xe) body (tb W))
    (hsu : ∀ (a : Addr) (cls : Value) (d : Option Addr) (pn : List (Addr × Obj)), PSs (X.suite a pn) (b₀ :: suite) (ts cls d)) :
    PS X (.Try body [.ExceptHandler (some (.Name x np)) (some n) (b₀ :: suite) pos'] [] [] pos) (fun D σ H => tb (wKp X.K c i ts Wout D) D σ H) := by
  refine ⟨fun pins s σ H D I h => ?_⟩
  have ok := I.ok
  have hfr : X.A.frames = some (X.env :: X.outer) := by rw [ok.frames, hs]
  have hloc : Loc X.env.scope n := .inl hln
  refine wpAny_Try_except ?_
  refine wpAny_mono ((hb (wKp X.K c i ts Wout D) (X.pn ++ pins) (fun e s₁ => wpAny (model X.prog X.w) X.A (noteFrame e X.env) (fun _ s₂ => wpAny (model X.prog X.w) X.A (setFlight e none) (fun _ s₃ =>
    wpAny (model X.prog X.w) X.A (handleBy e X.env [.ExceptHandler (some (.Name x np)) (some n) (b₀ :: suite) pos']) (SP X pins D) X.xe s₃) X.xe s₂) X.xe s₁) (fun u s' xx => ?_) PassesOwn.looking).run [] s σ H D (I.toTry _) h) (fun f s1 hsp => ?_) (fun e s1 he => he)
  · obtain ⟨a, B, sI, pins', σ', H', cls, d, rfl, J', nb, up, sky, na, os, ag, b, hb1, hyes, hno⟩ := xx
    have J : L2.Inv X pins σ' H' sI := J'.ofTry ok
    have sky' : Sky B (X.env :: X.outer) a (Zc cls d) X.env.locals s'.heap := by rw [← hs]; exact sky
    show wpAny (model X.prog X.w) X.A (noteFrame (.ref a) X.env) _ _ _
    refine Sky.land Zc.steady hfr hf sky' fun h3 fl3 up3 => ?_
    have J3 : L2.Inv X pins σ' H' { s' with heap := h3 } := J.landed nb fl3.1 (up.trans up3) os ag
    obtain ⟨oe3, vs3, he3, hz3, hd3⟩ := fl3.there
    have notFr : ∀ {h : Heap} {o : Obj} {vs : Array Value}, h.FunFrames B (X.env :: X.outer) → h.get? a = some o → o.data = .fields vs → a ∉ frs (X.env :: X.outer) := fun {h o vs} ff e dd hm => by
      obtain ⟨_, o', e', hnf⟩ := ff.mem hm
      rw [e] at e'; cases e'
      exact hnf _ dd
    have nfr := notFr fl3.2.2.1 he3 hd3
    have nL : a ≠ X.env.locals := fun z => nfr (List.mem_filterMap.mpr ⟨X.env, List.mem_cons_self, by rw [hf, z]⟩)
    have nF : a ∉ X.fs := fun hm => by
      obtain ⟨e, he, q⟩ := List.mem_filterMap.mp hm
      exact nfr (List.mem_filterMap.mpr ⟨e, List.mem_cons_of_mem _ he, q⟩)
    -- it was not there before
    have nI : sI.heap.get? a = none := by
      cases q : sI.heap.get? a with
      | none => rfl
      | some o =>
        have z := nb a o q (by rw [hs]; exact nfr)
        rw [fl3.2.1] at z; cases z
    have n0 : X.s_0.heap.get? a = none := by
      cases q : X.s_0.heap.get? a with
      | none => rfl
      | some o =>
        obtain ⟨o', z⟩ := J.base.there a o q (by rw [hex]; exact List.not_mem_nil)
        rw [nI] at z; cases z
    have nC : ∀ y cc, X.env.cells.lookup y = some cc → cc ≠ a := fun y cc e z => by
      obtain ⟨v, o, ho, _⟩ := J.cell y cc e
      rw [z, nI] at ho; cases ho
    have nP : ∀ p ∈ X.pn ++ pins, p.1 ≠ a := fun p hp z => by
      have e := (J.pin p hp).1
      rw [z, nI] at e; cases e
    have S3 := J3.suite he3 hd3 na nL nF
    refine wpAny_handleBy_cons (codeAny_handlers_test ?_) (by intro q; cases q)
    have LT : PySem.W.Looks (model X.prog X.w) h3 (typeOf (.ref a)) cls := fun A Q E s k q => wpAny_typeOf_ref (k _ _ he3) (by rw [hz3.1]; exact q)
    have LM := PySem.W.exm_one (M := model X.prog X.w) (J3.kIn) LT hb1
    have test : ∀ {Q : Value → Shared → Prop} {E : Value → Shared → Prop}, Q c { s' with heap := h3 } → wpAny (model X.prog X.w) (X.A.mark (some (.ref a))) (eval (.Name x np) X.env) Q E { s' with heap := h3 } := fun {Q E} q => by
      obtain ⟨hg, hdbg, hm | ⟨hm, hv, hnn⟩⟩ := hc
      · exact ld_glob (X := X.suite a ((a, oe3) :: (X.pn ++ pins))) S3 hg hm q hdbg
      · exact ld_blt (X := X.suite a ((a, oe3) :: (X.pn ++ pins))) S3 hg hm hv q hnn hdbg
    refine test (LM.here ?_)
    cases b with
    | true =>
      refine codeAny_handlers_suite_as ?_
      refine HandSPX.lands_againZ fl3 fun h4 fl4 up4 => ?_
      have J4 : L2.Inv X pins σ' H' { s' with heap := h4 } := J.landed nb fl4.1 ((up.trans up3).trans up4) os ag
      obtain ⟨oe4, vs4, he4, hz4, hd4⟩ := fl4.there
      have S4 := Inv.suite0 (Inv.track (o := ExH cls d a) J4 na n0 nL nC nP (exH_ok he4 hz4 hd4)) a
      refine store_ok (X := X.suite a (X.pn ++ pins)) (v := .ref a) S4 hN hi hloc rfl (fun s5 S5 => ?_) (.inr hln)
      refine wpAny_mono ((hsu a cls d (X.pn ++ pins)).run [] s5 _ _ _ S5 (hyes rfl a na)) (fun f s6 hsp => ?_) (fun _ _ z => False.elim z)
      have end_ : ∀ {σ6 : L2.St} {H6 : Hp} {Q : Shared → Prop}, L2.Inv (X.suite a (X.pn ++ pins)) [] σ6 H6 s6 → (∀ s7, L2.Inv X pins (σ6.set i none) H6 s7 → Q s7) →
          wpAny (model X.prog X.w) X.A (do bindName X.env n .none; unbindBehindTheSuite X.env n pos') (fun _ s7 => Q s7) X.xe s6 := fun {σ6 H6 Q} S6 hq => gone_ok (Inv.unsuite0 S6 ok) hN hi hln hq
      cases f with
      | next =>
        obtain ⟨σ6, H6, S6, q6⟩ := hsp
        exact end_ S6 fun s7 J7 => ⟨_, _, J7, q6⟩
      | brk =>
        obtain ⟨σ6, H6, S6, q6⟩ := hsp
        exact end_ S6 fun s7 J7 => ⟨_, _, J7, q6⟩
      | cont =>
        obtain ⟨σ6, H6, S6, q6⟩ := hsp
        exact end_ S6 fun s7 J7 => ⟨_, _, J7, q6⟩
      | ret u =>
        obtain ⟨v6, σ6, H6, S6, r6, q6⟩ := hsp
        exact end_ S6 fun s7 J7 => ⟨_, _, _, J7, r6, q6⟩
    | false =>
      show wpAny _ X.A (handleBy (.ref a) X.env []) _ _ _
      refine wpAny_handleBy_nil ?_
      obtain ⟨k1, k2, k3, oe, vs, T, oT, ts', he, hz, hd, h1, hr⟩ := id fl3
      unfold PySem.passOn
      refine wpAny_bind (wpAny_field he hd h1 ?_)
      rw [if_neg (show ¬ ((Value.ref T == Value.none) = true) from by simp)]
      have fin : wpAny (model X.prog X.w) X.A (setFlight (.ref a) X.env.frame) (fun _ s4 => wpAny (model X.prog X.w) X.A (throw (.ref a) : PySem.Sem Flow) (SP X pins D) X.xe s4) X.xe { s' with heap := h3 } := by
        rw [hf]
        refine HandSPX.setFlight_upZ fl3 fun h4 hh4 up4 => wpAny_throw (tk _ _ ?_)
        exact ⟨a, B, sI, pins, σ', H', cls, d, rfl, J, nb, (up.trans up3).trans up4, .inr (.inr (by rw [hs]; exact hh4)), na, os, ag, hno rfl⟩
      first
        | exact wpAny_bind (wpAny_pure (wpAny_bind fin))
        | exact wpAny_bind fin
  · cases f with
    | next =>
      obtain ⟨σ', H', J', q⟩ := hsp
      exact wpAny_execs_nil ⟨σ', H', J'.ofTry ok, q⟩
    | brk =>
      obtain ⟨σ', H', J', q⟩ := hsp
      exact ⟨σ', H', J'.ofTry ok, q⟩
    | cont =>
      obtain ⟨σ', H', J', q⟩ := hsp
      exact ⟨σ', H', J'.ofTry ok, q⟩
    | ret u =>
      obtain ⟨v, σ', H', J', r, q⟩ := hsp
      exact ⟨v, σ', H', J'.ofTry ok, r, q⟩
end
/-! #### by data -/
def sTryKeep (sub : Str → Option Bool) (i : Nat) (sb su : DS) : DS := fun DD c => sb { DD with xx := fun x c1 => ∃ b, sub x.cls = some b ∧
  (b = true → ∀ k, c1.cs k = none → su { nx := fun c2 => DD.nx { c2 with env := c2.env.set i none }, rt := DD.rt, bk := fun c2 => DD.bk { c2 with env := c2.env.set i none }, ct := fun c2 => DD.ct { c2 with env := c2.env.set i none } } ⟨c1.env.set i (some (.cel k)), put c1.cs k (.exc x)⟩) ∧
  (b = false → DD.xx x c1) } c
section
variable {X : Cx} {x n : Str} {c : Value} {i : Nat} {body suite : List Stmt} {b₀ : Stmt} {np pos pos' : Pos} {sb su : DS} {sub : Str → Option Bool}
theorem pds_tryKeep (hs : X.stack = X.env :: X.outer) (hf : X.env.frame = some X.env.locals) (hex : X.ex = []) (hN : X.N.Nodup) (hi : X.N[i]? = some n) (hln : X.env.kindOf n = some .local) (hc : Names X x c)
    (hsub : ∀ r b C, sub r = some b → X.mg r = some (.ref C) → PySem.W.exmOne X.K (.ref C) c = some b) (hcl : ∀ r b C, sub r = some b → X.mg r = some (.ref C) → ClsK X.K r C)
    (hb : ∀ (pn : List (Addr × Obj)) (xe : Value → Shared → Prop), PassesOwn (model X.prog X.w) X.A X.env xe → PDB (X.tr pn xe) body sb)
    (hsu : ∀ (a : Addr) (pn : List (Addr × Obj)), PDB (X.suite a pn) (b₀ :: suite) su) :
    PDS X (.Try body [.ExceptHandler (some (.Name x np)) (some n) (b₀ :: suite) pos'] [] [] pos) (sTryKeep sub i sb su) := by
  intro W tk
  refine ps_imp (ps_try_keep (i := i) (tb := fun W' => liftS X.K X.mg W' sb) (ts := fun _ _ => liftS X.K X.mg (fun _ _ _ _ => False) su) hs hf hex hN hi hln hc tk (fun W' pn xe tk' po => hb pn xe po W' tk')
    (fun a cls d pn => hsu a pn (fun _ _ _ _ => False) takes0)) fun Dn σ H ⟨as, H0, c0, DD, ok, q, k⟩ => ⟨as, H0, c0, _, ok, q, ?_⟩
  refine ⟨k.nx, k.bk, k.ct, k.rt, fun as1 H1 Hn1 σ1 c1 y d C l1 ok1 xd hm ⟨b, eb, yes, no⟩ => ⟨b, hsub _ _ _ eb hm, fun hbt a ha => ?_, fun hbf => k.xx _ _ _ _ _ _ _ _ l1 ok1 xd hm (no hbf)⟩⟩
  obtain ⟨j, as2, hj, l2, oc2, aj⟩ := ok1.c.cell ha (.exc xd (hcl _ _ _ eb hm))
  have ok2 : Ok X.K as2 H1 (upd Hn1 a (ExH (.ref C) d a)) (σ1.set i (some (.ref a))) ⟨c1.env.set i (some (.cel j)), put c1.cs j (.exc y)⟩ := ⟨oc2, (ok1.e.mono l2).set i (.cel aj)⟩
  refine ⟨as2, H1, _, _, ok2, yes hbt j hj, ?_⟩
  have nn : ∀ {as' H0' H' σ' c'}, Ok X.K as' H0' H' σ' c' → Ok X.K as' H0' H' (σ'.set i none) { c' with env := c'.env.set i none } := fun o => ⟨o.c, okE_none o.e i⟩
  have l := l1.trans l2
  exact ⟨fun _ _ _ _ _ l2 o q => k.nx _ _ _ _ _ (l.trans l2) (nn o) q, fun _ _ _ _ _ l2 o q => k.bk _ _ _ _ _ (l.trans l2) (nn o) q, fun _ _ _ _ _ l2 o q => k.ct _ _ _ _ _ (l.trans l2) (nn o) q,
    fun _ _ _ _ _ _ l2 o r q => k.rt _ _ _ _ _ _ (l.trans l2) o r q, fun _ _ _ _ _ _ _ _ _ _ _ _ z => z.elim⟩
end
/-! ### isinstance of a kept one -/
section
variable {X : Cx} {K : PySem.W.Frag}
theorem inst_exH {P : Program} {w : World} {H : Hp} {h : Heap} {a C : Addr} {d : Option Addr} (hok : HOk P w H h) (e : H a = some (ExH (.ref C) d a)) (hd : ∀ dd, d = some dd → ∃ fs, H dd = some (.xd fs)) : ∃ oe od, PySem.W.InstAt h a oe C od := by
  obtain ⟨⟨oe, ho, hz, vs, hv⟩, _⟩ := hok a _ e
  cases d with
  | none => exact ⟨oe, none, ho, hz.1, by unfold PySem.W.notCls; rw [hv] <;> rfl, by rw [hz.2]; trivial⟩
  | some dd =>
    obtain ⟨fs, hx⟩ := hd dd rfl
    obtain ⟨mA, hns, _⟩ := hok dd _ hx
    obtain ⟨od, hod, _⟩ := lookIn_ns hns
    exact ⟨oe, some od, ho, hz.1, by unfold PySem.W.notCls; rw [hv] <;> rfl, by rw [hz.2]; exact hod⟩
/-- what flies, as it lies in the heap -/
def ExAt (K : PySem.W.Frag) (H : Hp) (a C : Addr) : Prop := ∃ d, H a = some (ExH (.ref C) d a) ∧ ∀ dd, d = some dd → ∃ fs, H dd = some (.xd fs)
def rIsX (K : PySem.W.Frag) : List V → Hp → VK → Prop := fun xs H Q => ∃ (a C : Addr) (v : V) (cv : Value) (b : Bool), xs = [.ref a, v] ∧ ClsV v cv ∧ ExAt K H a C ∧ ExcC K C ∧ PySem.W.kitOne K (.ref C) cv = some b ∧ Q (.bl b) H
theorem call_isX : CallR X (.builtin "isinstance") (rIsX X.K) := by
  intro pins s σ H xs us Q I r ⟨a, C, v, cv, b, e0, hc, ⟨d, ha, hd⟩, EC, kt, q⟩
  subst e0
  obtain ⟨wa, wb, rfl, ra, rb⟩ := vals2 r
  cases (show wa = Value.ref a from ra)
  have e3 := hc.eq rb
  subst e3
  obtain ⟨oe, od, J⟩ := inst_exH I.hok ha hd
  have hcl : (PySem.W.clsIn X.K C).isSome = true := by obtain ⟨cd, hc, _⟩ := PySem.W.any_some EC.hd; rw [hc]; rfl
  exact PySem.W.kia_one (PySem.W.kitx_exc hcl EC.hg EC.hk EC.hs EC.ha EC.hn EC.ht EC.hm) I.kIn J kt (fun z => nomatch z) fun tk => ⟨.bl b, H, I.kept (t' := tk) fun _ _ z => z, rfl, q⟩
def dIsX (ob : Str → Option Bool) (da : DE) : DE := fun c R => da c fun d c1 => onCel d fun k => ∃ x b, c1.cs k = some (.exc x) ∧ ob x.cls = some b ∧ R (.bl b) c1
theorem cell_exc {as : AsM} {H0 H : Hp} {cs : Cells} {k : Nat} {x : DX} {v : V} (ok : OkC K as H0 H cs) (r : Rp K as H0 v (.cel k)) (h : cs k = some (.exc x)) : ∃ p C d, v = .ref p ∧ as k = some p ∧ H p = some (ExH (.ref C) d p) ∧ XD K as H0 x d ∧ ClsK K x.cls C := by
  cases r with
  | cel e =>
    obtain ⟨p', u, h1, h2, h3, h4⟩ := ok.cel k _ h
    rw [e] at h1; cases h1
    cases h4 with
    | exc h5 h6 => exact ⟨_, _, _, rfl, e, h3, h5, h6⟩
theorem exAt_of {as : AsM} {H0 H : Hp} {a C : Addr} {d : Option Addr} {x : DX} (ex : ∀ a o, H0 a = some o → H a = some o) (e : H a = some (ExH (.ref C) d a)) (h : XD K as H0 x d) : ExAt K H a C := by
  cases h with
  | no => exact ⟨none, e, fun _ z => nomatch z⟩
  | fs h1 h2 => exact ⟨_, e, fun dd z => by cases z; exact ⟨_, ex _ _ h1⟩⟩
variable {ob : Str → Option Bool} {e e2 : Expr} {da : DE} {pos p : Pos} {cv : Value}
theorem pd_isX (hI : Gl X "isinstance") (hIm : X.mg "isinstance" = none) (ha : PD X e da) (hc : ClsN X e2 cv) (h : ∀ r b C, ob r = some b → ClsK X.K r C → ExcC X.K C ∧ PySem.W.kitOne X.K (.ref C) cv = some b)
    (he0 : starEach [e, e2] X.env = (false, eval e X.env) :: starEach [e2] X.env := by rfl) (he1 : starEach [e2] X.env = [(false, eval e2 X.env)] := by rfl) :
    PD X (.Call (.Name "isinstance" p) [e, e2] [] pos) (dIsX ob da) := by
  obtain ⟨v, hpe, hcv⟩ := hc.ex
  have pe := pe_callB (pos := pos) (p := p) (call_isX (X := X)) hI hIm (by decide +kernel) (pa_cons ha (pa_cons hpe pa_nil he1) he0) (he := he0) (hpl := by
    show ((backTo pos (starEach [e2] X.env)).any (·.1)) = false
    rw [he1]; rfl)
  refine pe_imp pe fun σ H Q ⟨as, H0, c, R, ok, q, k⟩ => ⟨as, H0, c, _, ok, q, fun as1 H1 Hn1 c1 u d l1 ok1 r1 q0 => ?_⟩
  obtain ⟨j, e1, x, b, e3, e4, q1⟩ := onCel_of q0
  subst e1
  obtain ⟨a, C, dd, rfl, ap, hH, xd, cl⟩ := cell_exc ok1.c r1 e3
  obtain ⟨EC, kt⟩ := h _ _ _ e4 cl
  exact ⟨a, C, v, cv, b, rfl, hcv, exAt_of ok1.c.ex hH xd, EC, kt, k _ _ _ _ _ _ l1 ok1 (.bl b) q1⟩
end
end DL
namespace DL
open L2 PySem PyProof.Rows
section
variable {X : Cx} {K : PySem.W.Frag} {a b : Expr} {rest : List Expr} {da db : DE} {pos : Pos}
/-! ### x or y, of things of any kind -/
end
end DL
namespace DL
open L2 PySem PyProof.Rows
section
variable {X : Cx} {K : PySem.W.Frag} {a b e : Expr} {da db : DE} {pos p : Pos} {x : Str}
/-! ### what is not reached -/
/-! ### a dict of the module, of texts -/
def onStr (o : D) (f : Str → Prop) : Prop := match o with | .str s => f s | _ => False
theorem onStr_of {o : D} {f : Str → Prop} (h : onStr o f) : ∃ k, o = .str k ∧ f k := by
  cases o <;> first | exact ⟨_, rfl, h⟩ | exact h.elim
end
/-! ### some of the keyword-only parameters are written -/
section
variable {K : PySem.W.Frag} {f : Addr} {fd : FuncData} {ps ks : List Str} {x qual : Str} {params : Arguments} {body : List Stmt} {scope : Scope} {kws : List (Str × V)}
end
end DL

/-! t[::-1] of a tuple -/
namespace HT
open PySem PyProof.Rows
section
variable {prog : Program} {w : World} {A : Around} {E : Value → Shared → Prop} {s : Shared}
end
end HT
namespace L2
open PySem PySem.Spec PyProof.Rows
section
variable {X : Cx}
end
end L2
namespace DL
open L2 PySem PySem.Spec PyProof.Rows
section
variable {X : Cx} {a : Expr} {da : DE}
end
end DL

/-! d[k] = v of a dict that changes -/
namespace DL
open L2 PySem PyProof.Rows
section
variable {X : Cx} {K : PySem.W.Frag} {e a b o i : Expr} {da db do_ di : DE} {pos : Pos}
end
end DL

/-! a walk along two lists that change, but not in the meanwhile -/
namespace DL
open L2 PySem PyProof.Rows
section
variable {X : Cx} {K : PySem.W.Frag} {dr : DA} {pos : Pos}
end
end DL

/-! a < b < c < d -/
namespace L2
open PySem PySem.Spec PyProof.Rows
section
variable {X : Cx} {ta tb tc td : TE} {a b c d : Expr} {pos : Pos}
end
end L2
namespace DL
open L2 PySem PySem.Spec PyProof.Rows
section
variable {X : Cx} {da db dc dd : DE} {a b c d : Expr} {pos : Pos}
end
end DL

/-! list(a sequence), list(range(n)) -/
namespace DL
open L2 PySem PyProof.Rows
section
variable {X : Cx} {K : PySem.W.Frag} {a : Expr} {da : DE}
end
end DL

/-! tuples: + and slices of any kind -/
namespace DL
open L2 PySem PyProof.Rows
section
variable {X : Cx} {K : PySem.W.Frag} {a b : Expr} {da db : DE} {pos : Pos}
def dAddA : DF := fun x y c R => match x, y with
  | .tup xs, .tup ys => xs.length + ys.length ≤ sizeLine ∧ R (.tup (xs ++ ys)) c
  | x, y => dAdd x y c R
theorem opD_addA : OpD K (fun x y H Q => rAdd5 K x y H Q ∨ rCatA K x y H Q) dAddA := by
  intro as H0 H σ c v1 v2 d1 d2 R Q ok r1 r2 h k
  have old : dAdd d1 d2 c R → rAdd5 K v1 v2 H Q ∨ rCatA K v1 v2 H Q := fun h => .inl (opD_add as H0 H σ c v1 v2 d1 d2 R Q ok r1 r2 h k)
  cases d1 with
  | tup xs =>
    cases d2 with
    | tup ys =>
      cases r1 with
      | tup g1 g2 =>
        cases r2 with
        | tup g3 g4 =>
          obtain ⟨hl, q⟩ := h
          have n1 := g2.length
          have n2 := g4.length
          refine .inr ⟨_, _, _, _, rfl, rfl, seqT_mono ok.c.ex g1, seqT_mono ok.c.ex g3, by rw [n1, n2]; exact hl, fun e => ?_, fun _ e => ?_, fun _ _ p hp => ?_⟩
          · subst e
            have : xs = [] := List.eq_nil_of_length_eq_zero n1.symm
            subst this
            exact k _ _ _ _ _ _ .refl ok (.tup g3 g4) q
          · subst e
            have : ys = [] := List.eq_nil_of_length_eq_zero n2.symm
            subst this
            rw [List.append_nil] at q
            exact k _ _ _ _ _ _ .refl ok (.tup g1 g2) q
          · obtain ⟨l', ok'⟩ := new_known (o := .tup _) ok hp
            exact k _ _ _ _ _ _ l' ok' (rp_tup l' (g2.append g4)) q
    | _ => exact old h
  | _ => exact old h
theorem pd_addA (ha : PD X a da) (hb : PD X b db) : PD X (.BinOp a .Add b pos) (dBin dAddA da db) := pd_bin (opR_or op_add5 op_catA) opD_addA ha hb
def dSlTF : D → Option Int → Option Int → Z → (D → Z → Prop) → Prop := fun x lo hi c R => match x with
  | .tup ds => R (.tup (cutD ds lo hi)) c
  | _ => False
def dSlT (da : DE) (dl dh : DO) : DE := fun c R => da c fun x c1 => dl c1 fun lo c2 => dh c2 fun hi c3 => dSlTF x lo hi c3 R
theorem cut_whole {xs : List D} {lo hi : Option Int} (h : HT.sIx xs.length 0 lo = 0 ∧ HT.sIx xs.length xs.length hi = xs.length) : cutD xs lo hi = xs := by
  unfold cutD
  rw [h.1, h.2, List.drop_zero, Nat.sub_zero, List.take_length]
theorem pd_sliceT {lo hi : Option Expr} {dl dh : DO} {p2 : Pos} (ha : PD X a da) (hl : PDO X lo dl) (hh : PDO X hi dh) : PD X (.Subscript a (.Slice lo hi none p2) pos) (dSlT da dl dh) :=
  pe_imp (pe_slice sl_tupA ha hl hh) fun σ H Q ⟨as, H0, c, R, ok, q, k⟩ => ⟨as, H0, c, _, ok, q, fun as1 H1 Hn1 c1 v1 d1 l1 ok1 r1 q1 => ⟨as1, H1, c1, _, ok1, q1, fun as2 H2 Hn2 c2 o2 l2 ok2 q2 => ⟨as2, H2, c2, _, ok2, q2, fun as3 H3 Hn3 c3 o3 l3 ok3 q3 => by
    cases d1 with
    | tup xs =>
      cases r1 with
      | tup g1 g2 =>
        have g2' := g2.mono (l2.trans l3)
        refine ⟨_, _, rfl, seqT_mono (fun b o z => ok3.c.ex b o ((l2.trans l3).hp b o z)) g1, fun e => ?_, fun e p hp => ?_⟩
        · rw [g2.length] at e
          have q3' : R (.tup (cutD xs o2 o3)) c3 := q3
          rw [cut_whole e] at q3'
          exact k _ _ _ _ _ _ ((l1.trans l2).trans l3) ok3 (.tup (seqT_mono (l2.trans l3).hp g1) g2') q3'
        · obtain ⟨l', ok'⟩ := new_known (o := .tup _) ok3 hp
          exact k _ _ _ _ _ _ (((l1.trans l2).trans l3).trans l') ok' (rp_tup l' (cut_rp g2')) q3
    | _ => exact q3.elim⟩⟩⟩
end
end DL

/-! [e for x in xs for y in ys] -/
namespace DL
open L2 PySem PyProof.Rows
section
variable {X : Cx} {K : PySem.W.Frag}
end
end DL
namespace DL
open L2 PySem PyProof.Rows
section
variable {X : Cx} {tg tg1 : Expr} {pos : Pos}
end
end DL

/-! enumerate(t), t a tuple -/
namespace DL
open L2 PySem PyProof.Rows
section
variable {pr : Program} {wd : World} {Ar : Around} {Er : Value → Shared → Prop} {st : Shared}
end
section
variable {pr : Program} {wd : World} {Ar : Around} {Er : Value → Shared → Prop} {st : Shared}
end
section
variable {X : Cx} {dr : DA}
end
end DL

/-! sorted(set(l)), l a list of ints -/
namespace DL
open L2 PySem PyProof.Rows
section
variable {pr : Program} {wd : World} {Ar : Around} {Er : Value → Shared → Prop} {st : Shared}
end
section
variable {X : Cx}
end
end DL

/-! list(zip(a, b)), a and b tuples -/
namespace DL
open L2 PySem PyProof.Rows
section
variable {pr : Program} {wd : World} {Ar : Around} {Er : Value → Shared → Prop} {st : Shared} {z TI TO T i1 i2 l1 l2 : Addr} {fl : Bool} {oT : Obj} {k1 k2 : Nat} {xs ys : Array Value} {x y : Value}
end
/-- zip(a, b) behind i draws; S: the list that takes the pairs -/
structure Zst (h : Heap) (z TI TO i1 i2 l1 l2 S : Addr) (xs ys : Array Value) (i : Nat) : Prop where
  ti : IsPair h TI (.ref i1) (.ref i2)
  w1 : h.IsTupleIter i1 l1 i
  w2 : h.IsTupleIter i2 l2 i
  t1 : h.IsTuple l1 xs
  t2 : h.IsTuple l2 ys
  zo : (IsZip h z TI TO .none ∧ ∃ a b, IsPair h TO a b) ∨ ∃ T f oT, IsZipHeld h z TI TO T f ∧ h.get? T = some oT ∧ T ≠ z ∧ T ≠ i1 ∧ T ≠ i2 ∧ T ≠ S
section
variable {pr : Program} {wd : World} {Ar : Around} {Er : Value → Shared → Prop} {st : Shared} {z TI TO i1 i2 l1 l2 S : Addr} {i : Nat} {xs ys : Array Value} {x y : Value}
theorem Zst.keep {h h' : Heap} (q : Zst h z TI TO i1 i2 l1 l2 S xs ys i) (low : ∀ b ∈ [z, TI, TO, i1, i2, l1, l2], b < S) (k : ∀ b o, b ≠ S → h.get? b = some o → h'.get? b = some o) : Zst h' z TI TO i1 i2 l1 l2 S xs ys i := by
  have ne : ∀ b ∈ [z, TI, TO, i1, i2, l1, l2], b ≠ S := fun b hb => Nat.ne_of_lt (low b hb)
  simp only [List.forall_mem_cons, List.not_mem_nil, false_imp_iff, implies_true, and_true] at ne
  obtain ⟨n1, n2, n3, n4, n5, n6, n7⟩ := ne
  refine ⟨k _ _ n2 q.ti, q.w1.at fun o => k _ o n4, q.w2.at fun o => k _ o n5, q.t1.at fun o => k _ o n6, q.t2.at fun o => k _ o n7, ?_⟩
  rcases q.zo with ⟨e, a, b, f⟩ | ⟨T, f, oT, e, g, r1, r2, r3, r4⟩
  · exact .inl ⟨k _ _ n1 e, a, b, k _ _ n3 f⟩
  · exact .inr ⟨T, f, oT, k _ _ n1 e, k _ _ r4 g, r1, r2, r3, r4⟩
theorem Zst.type {s : Shared} (q : Zst s.heap z TI TO i1 i2 l1 l2 S xs ys i) : s.TypeIs (.ref z) "zip" := by
  rcases q.zo with ⟨e, _⟩ | ⟨T, f, oT, e, _⟩
  · exact ⟨_, e, rfl⟩
  · exact ⟨_, e, rfl⟩
/-- the pairs that stand -/
structure Zgot (xs ys : Array Value) (S : Addr) (h : Heap) (as : List Addr) : Prop where
  rise : as.Pairwise (· < ·)
  above : ∀ a ∈ as, S < a
  pairs : ∀ (j : Nat) (a : Addr), as[j]? = some a → ∃ x y, xs[j]? = some x ∧ ys[j]? = some y ∧ IsPair h a x y
theorem Zgot.there {h : Heap} {as : List Addr} (g : Zgot xs ys S h as) {a : Addr} (ha : a ∈ as) : a < h.objs.size := by
  obtain ⟨j, hj⟩ := List.mem_iff_getElem?.mp ha
  obtain ⟨_, _, _, _, e⟩ := g.pairs j a hj
  exact Heap.lt_size e
end
/-! #### what is tracked then -/
section
variable {X : Cx} {pins : List (Addr × Obj)} {σ : L2.St} {H : Hp} {s : Shared}
end
end DL

/-! a list that changes no more, under its name -/
namespace DL
open L2 PySem PyProof.Rows
end DL

/-! all(l), any(l), l a list of bools -/
namespace DL
open L2 PySem PyProof.Rows
section
variable {K : PySem.W.Frag}
theorem boolsOf_rp {as : AsM} {H : Hp} : ∀ {bs : List Bool} {vs : List V}, RpA K as H vs (bs.map D.bl) → vs = bs.map V.bl
  | [], _, h => by cases h; rfl
  | b :: bs, _, h => by
    cases h with
    | cons h1 h2 =>
      cases h1
      rw [boolsOf_rp h2]; rfl
def fAll : DFn := fun ds c R => ∃ d, ∃ bs : List Bool, ds = [d] ∧ listD d = some (bs.map .bl) ∧ R (.bl (bs.all id)) c
theorem callD_all : CallD K (rAll K) fAll := by
  intro as H0 H σ c vs ds R Q ok r ⟨d, bs, e, h1, h3⟩ k
  subst e
  obtain ⟨v, rfl, r1⟩ := rpa1 r
  obtain ⟨a, us, rfl, g1, g2⟩ := listD_rp ok.c.ex r1 h1
  have e := boolsOf_rp g2
  subst e
  exact ⟨a, bs, rfl, g1, k _ _ _ _ _ _ .refl ok (.bl _) h3⟩
end
end DL

/-! sets of texts: what stands in one, a text put in -/
namespace DL
open L2 PySem PyProof.Rows
/-- the text of a row -/
def rowT (x : Int × Value) : Str := match x.2 with | .str y _ => y | _ => Str.ofString ""
def TxRow (wd : World) (x : Int × Value) : Prop := ∃ y u, x.2 = Value.str y u ∧ x.1 = hashStr wd y
/-- the rows es hold the texts M, each once -/
structure Rows (wd : World) (es : Array (Int × Value)) (t : SetTable) (M : Str → Bool) : Prop where
  rows : ∀ x ∈ es.toList, TxRow wd x
  once : (es.toList.map rowT).Nodup
  mem : ∀ y, M y = true ↔ y ∈ es.toList.map rowT
  few : es.size < scanBound
  fit : t.fits es.size = true
  ris : Ris t.place.toList
  led : wd.params.followText "set-order" = true ∨ t.led = true
def SetS (wd : World) (h : Heap) (a : Addr) (M : Str → Bool) (n : Nat) : Prop :=
  ∃ o es ep t, h.get? a = some o ∧ o.ExactSet ∧ o.data = .set es ep t ∧ Rows wd es t M ∧ es.size = n
section
variable {pr : Program} {wd : World} {Ar : Around} {Er : Value → Shared → Prop} {st : Shared} {a : Addr} {M : Str → Bool} {n : Nat}
theorem SetS.keep {h h' : Heap} (z : SetS wd h a M n) (k : ∀ o, h.get? a = some o → h'.get? a = some o) : SetS wd h' a M n := by
  rcases z with ⟨o, es, ep, t, g, z⟩
  exact ⟨o, es, ep, t, k o g, z⟩
theorem SetS.same {h : Heap} {M' : Str → Bool} (z : SetS wd h a M n) (e : ∀ y, M' y = M y) : SetS wd h a M' n := by
  rw [show M' = M from funext e]; exact z
end
end DL

/-! sorted(set(l)), l a list of texts -/
namespace DL
open L2 PySem PyProof.Rows
section
variable {pr : Program} {wd : World} {Ar : Around} {Er : Value → Shared → Prop} {st : Shared}
end
end DL

/-! sorted(set(l)), l a list of texts: the reading -/
namespace DL
open L2 PySem PyProof.Rows
section
variable {pr : Program} {wd : World} {Ar : Around} {Er : Value → Shared → Prop} {st : Shared} {a : Addr} {M : Str → Bool} {n : Nat}
end
section
variable {X : Cx}
end
end DL

/-! sorted(set(l)) as a list that may change; l may be one too -/
namespace DL
open L2 PySem PyProof.Rows
section
variable {X : Cx}
end
end DL

/-! texts in order, each once: by their members alone -/
namespace DL
open L2 PySem PySem.Spec PyProof.Rows
end DL

/-! a != b, a and b lists of which some elements are changing lists -/
namespace DL
open L2 PySem PyProof.Rows
section
variable {K : PySem.W.Frag}
end
section
variable {X : Cx} {a b : Expr} {da db : DE} {pos : Pos}
end
end DL

/-! l[::-1] of a list; x in l, things of any depth; a list that may change + a list; data that are one -/
namespace DL
open L2 PySem PySem.Spec PyProof.Rows
section
variable {X : Cx} {K : PySem.W.Frag} {a b : Expr} {da db : DE}
/-- l + [..], l a list that may change: a new one that may change -/
def dAddCel : DF := fun x y c R => onCel x fun k => ∃ xs ys, c.cs k = some (.lst xs) ∧ y = .lst ys ∧ xs.length + ys.length ≤ sizeLine ∧ ∀ j, c.cs j = none → R (.cel j) { c with cs := put c.cs j (.lst (xs ++ ys)) }
theorem opD_addCel : OpD K rCat dAddCel := by
  intro as H0 H σ c v1 v2 d1 d2 R Q ok r1 r2 h k
  obtain ⟨i, rfl, xs, ys, e1, e2, few, q⟩ := onCel_of h
  obtain ⟨p, us, rfl, _, g3, g4⟩ := cell_lst ok r1 e1
  subst e2
  cases r2 with
  | lst g5 g6 =>
    refine ⟨_, _, _, _, rfl, rfl, g3, ok.c.ex _ _ g5, by rw [g4.length, g6.length]; exact few, fun p hp => ?_⟩
    obtain ⟨j, as3, free, l3, ok3, r3⟩ := new_cell ok hp (.lst (g4.append g6))
    exact k _ _ _ _ _ _ l3 ok3 r3 (q j free)
theorem pd_addCel {pos : Pos} (ha : PD X a da) (hb : PD X b db) : PD X (.BinOp a .Add b pos) (dBin dAddCel da db) := pd_bin op_cat opD_addCel ha hb
end
/-! ### data of which those alike are one -/
mutual
def iso : D → Bool
  | .int _ => true | .str _ => true | .lst ds => isoA ds | .tup ds => isoA ds | _ => false
def isoA : List D → Bool
  | [] => true
  | d :: ds => iso d && isoA ds
end
mutual
theorem eqv_iso : ∀ {x y : D}, iso x = true → iso y = true → (PyData.eqv (py x) (py y) = true ↔ x = y)
  | .int i, y, _, h => by
    cases y <;> first | (cases h; done) | skip
    · show ((i == _) = true) ↔ _
      rw [beq_iff_eq]
      exact ⟨fun e => by rw [e], fun e => by cases e; rfl⟩
    all_goals exact ⟨fun e => (by cases e), fun e => (by cases e)⟩
  | .str i, y, _, h => by
    cases y <;> first | (cases h; done) | skip
    · exact ⟨fun e => (by cases e), fun e => (by cases e)⟩
    · show ((i == _) = true) ↔ _
      rw [beq_iff_eq]
      exact ⟨fun e => by rw [e], fun e => by cases e; rfl⟩
    all_goals exact ⟨fun e => (by cases e), fun e => (by cases e)⟩
  | .lst xs, y, g, h => by
    cases y <;> first | (cases h; done) | skip
    case lst ys =>
      exact (eqv_isoA (show isoA xs = true from g) (show isoA ys = true from h)).trans ⟨fun e => by rw [e], fun e => by cases e; rfl⟩
    all_goals exact ⟨fun e => (by cases e), fun e => (by cases e)⟩
  | .tup xs, y, g, h => by
    cases y <;> first | (cases h; done) | skip
    case tup ys =>
      exact (eqv_isoA (show isoA xs = true from g) (show isoA ys = true from h)).trans ⟨fun e => by rw [e], fun e => by cases e; rfl⟩
    all_goals exact ⟨fun e => (by cases e), fun e => (by cases e)⟩
  | .non, _, g, _ => by cases g
  | .bl _, _, g, _ => by cases g
  | .slst _, _, g, _ => by cases g
  | .dic _, _, g, _ => by cases g
  | .ref _, _, g, _ => by cases g
  | .ty _, _, g, _ => by cases g
  | .cel _, _, g, _ => by cases g
  | .fn _, _, g, _ => by cases g
  | .dicB _ _, _, g, _ => by cases g
  | .clo _ _ _ _, _, g, _ => by cases g
theorem eqv_isoA : ∀ {xs ys : List D}, isoA xs = true → isoA ys = true → (PyData.eqvAll (pyA xs) (pyA ys) = true ↔ xs = ys)
  | [], [], _, _ => ⟨fun _ => rfl, fun _ => rfl⟩
  | [], _ :: _, _, _ => ⟨fun e => (by cases e), fun e => by cases e⟩
  | _ :: _, [], _, _ => ⟨fun e => (by cases e), fun e => by cases e⟩
  | x :: xs, y :: ys, g, h => by
    have g' := Bool.and_eq_true_iff.mp (show (iso x && isoA xs) = true from g)
    have h' := Bool.and_eq_true_iff.mp (show (iso y && isoA ys) = true from h)
    show ((PyData.eqv (py x) (py y) && PyData.eqvAll (pyA xs) (pyA ys)) = true) ↔ _
    rw [Bool.and_eq_true, eqv_iso g'.1 h'.1, eqv_isoA g'.2 h'.2, List.cons.injEq]
end
end DL

/-! a dict from a comprehension -/
namespace L2
open PySem PySem.Spec PyProof.Rows
section
variable {X : Cx}
end
end L2
namespace DL
open L2 PySem PySem.Spec PyProof.Rows
section
variable {K : PySem.W.Frag} {X : Cx}
end
end DL

/-! repr of data in which empty dicts stand -/
namespace DL
open L2 PySem PySem.Spec PyProof.Rows
mutual
def pyE : D → PyData
  | .non => .none | .bl b => .bool b | .int i => .int i | .str s => .str s
  | .lst ds => .list (pyEA ds) | .slst ds => .list (pyEA ds) | .tup ds => .tuple (pyEA ds)
  | .dic _ => .dict [] | .ref _ => .none | .ty _ => .none | .cel _ => .none | .fn _ => .none | .dicB _ _ => .none | .clo _ _ _ _ => .none
def pyEA : List D → List PyData
  | [] => []
  | d :: ds => pyE d :: pyEA ds
end
mutual
def smallE : D → Prop
  | .int i => -(2 ^ 200) < i ∧ i < 2 ^ 200
  | .str s => ∀ c ∈ s.cps.toList, c < 16 ^ 8
  | .lst ds => smallEA ds | .slst ds => smallEA ds | .tup ds => smallEA ds
  | .non => True | .bl _ => True | .dic ks => ks = [] | .ref _ => False | .ty _ => False | .cel _ => False | .fn _ => False | .dicB _ _ => False | .clo _ _ _ _ => False
def smallEA : List D → Prop
  | [] => True
  | d :: ds => smallE d ∧ smallEA ds
end
mutual
inductive DpE (K : PySem.W.Frag) (H : Hp) : V → PyData → Prop
  | non : DpE K H .non .none
  | bl (b : Bool) : DpE K H (.bl b) (.bool b)
  | int (i : Int) : DpE K H (.int i) (.int i)
  | str (x : Str) : DpE K H (.str x) (.str x)
  | lst {a : Addr} {xs : List V} {ds : List PyData} : SqL K H a xs → DpEA K H xs ds → DpE K H (.ref a) (.list ds)
  | tup {a : Addr} {xs : List V} {ds : List PyData} : SqT K H a xs → DpEA K H xs ds → DpE K H (.ref a) (.tuple ds)
  | dic {a : Addr} : Rd H a (.dK []) → DpE K H (.ref a) (.dict [])
inductive DpEA (K : PySem.W.Frag) (H : Hp) : List V → List PyData → Prop
  | nil : DpEA K H [] []
  | cons {v : V} {vs : List V} {d : PyData} {ds : List PyData} : DpE K H v d → DpEA K H vs ds → DpEA K H (v :: vs) (d :: ds)
end
section
variable {K : PySem.W.Frag} {as : AsM} {H0 H : Hp}
mutual
theorem rpE (e : ∀ a o, H0 a = some o → H a = some o) : ∀ {d : D} {v : V}, smallE d → Rp K as H0 v d → DpE K H v (pyE d)
  | .non, _, _, h => by cases h; exact .non
  | .bl _, _, _, h => by cases h; exact .bl _
  | .int _, _, _, h => by cases h; exact .int _
  | .str _, _, _, h => by cases h; exact .str _
  | .lst ds, _, p, h => by
    cases h with
    | lst h1 h2 => exact .lst (SqL.of (e _ _ h1)) (rpEA e (show smallEA ds from p) h2)
  | .slst ds, _, p, h => by
    cases h with
    | slst h1 h2 => exact .lst (seqL_mono e h1) (rpEA e (show smallEA ds from p) h2)
  | .tup ds, _, p, h => by
    cases h with
    | tup h1 h2 => exact .tup (seqT_mono e h1) (rpEA e (show smallEA ds from p) h2)
  | .dic ks, _, p, h => by
    have p' : ks = [] := p
    subst p'
    cases h with
    | dic h1 h2 => cases h2; exact .dic (.inr ⟨_, e _ _ h1⟩)
  | .ref _, _, p, _ => False.elim p
  | .ty _, _, p, _ => False.elim p
  | .cel _, _, p, _ => False.elim p
  | .fn _, _, p, _ => False.elim p
  | .dicB _ _, _, p, _ => False.elim p
  | .clo _ _ _ _, _, p, _ => False.elim p
theorem rpEA (e : ∀ a o, H0 a = some o → H a = some o) : ∀ {ds : List D} {vs : List V}, smallEA ds → RpA K as H0 vs ds → DpEA K H vs (pyEA ds)
  | [], _, _, h => by cases h; exact .nil
  | d :: ds, _, p, h => by
    cases h with
    | cons h1 h2 => exact .cons (rpE e p.1 h1) (rpEA e p.2 h2)
end
end
mutual
theorem smallE_shown : ∀ {d : D}, smallE d → (pyE d).showable = true ∧ (pyE d).shown.length ≤ wt d
  | .non, _ => ⟨rfl, by decide⟩
  | .bl b, _ => ⟨rfl, by cases b <;> decide⟩
  | .int i, h => (small_shown (d := .int i) h).2.imp id And.right
  | .str s, h => (small_shown (d := .str s) h).2.imp id And.right
  | .lst ds, h => by
    obtain ⟨h2, h4⟩ := smallEA_shown (ds := ds) h
    refine ⟨h2, ?_⟩
    have := listText_len_le (PyData.shownAll (pyEA ds))
    show (listText (PyData.shownAll (pyEA ds))).length ≤ 3 + wtA ds
    omega
  | .slst ds, h => by
    obtain ⟨h2, h4⟩ := smallEA_shown (ds := ds) h
    refine ⟨h2, ?_⟩
    have := listText_len_le (PyData.shownAll (pyEA ds))
    show (listText (PyData.shownAll (pyEA ds))).length ≤ 3 + wtA ds
    omega
  | .tup ds, h => by
    obtain ⟨h2, h4⟩ := smallEA_shown (ds := ds) h
    refine ⟨h2, ?_⟩
    have := tupleText_len_le (PyData.shownAll (pyEA ds))
    show (tupleText (PyData.shownAll (pyEA ds))).length ≤ 3 + wtA ds
    omega
  | .dic _, _ => ⟨rfl, Nat.le_of_ble_eq_true rfl⟩
  | .ref _, h => False.elim h
  | .ty _, h => False.elim h
  | .cel _, h => False.elim h
  | .fn _, h => False.elim h
  | .dicB _ _, h => False.elim h
  | .clo _ _ _ _, h => False.elim h
theorem smallEA_shown : ∀ {ds : List D}, smallEA ds → PyData.showableAll (pyEA ds) = true ∧ ((PyData.shownAll (pyEA ds)).map (·.length)).sum + 2 * (PyData.shownAll (pyEA ds)).length ≤ wtA ds
  | [], h => ⟨rfl, Nat.le_refl _⟩
  | d :: ds, h => by
    obtain ⟨a2, a4⟩ := smallE_shown (d := d) h.1
    obtain ⟨b2, b4⟩ := smallEA_shown (ds := ds) h.2
    refine ⟨?_, ?_⟩
    · show (PyData.showable (pyE d) && PyData.showableAll (pyEA ds)) = true
      rw [a2, b2]; rfl
    · show (((PyData.shown (pyE d)) :: PyData.shownAll (pyEA ds)).map (·.length)).sum + 2 * ((PyData.shown (pyE d)) :: PyData.shownAll (pyEA ds)).length ≤ wt d + 2 + wtA ds
      simp only [List.map_cons, List.sum_cons, List.length_cons]
      omega
end
/-- read, and each dict of it no table of modules: it shows -/
def ShE (prog : Program) (w : World) (h : Heap) (u : Value) (d : PyData) : Prop := (∃ as, Reads h u d as) ∧ ∃ bs, ReadAtMost h d.depth bs ∧ ReprK prog w bs h d.depth u d.shown
def ShEA (prog : Program) (w : World) (h : Heap) (us : List Value) (ds : List PyData) : Prop := (∃ as, ReadsAll h us ds as) ∧ ∃ bs, ReadAtMost h (PyData.depthAll ds) bs ∧ ReprAllK prog w bs h (PyData.depthAll ds) us (PyData.shownAll ds)
section
variable {X : Cx} {pins : List (Addr × Obj)} {σ : L2.St} {H : Hp} {s : Shared}
theorem she_dict {a : Addr} (I : Inv X pins σ H s) (h : Rd H a (.dK [])) : ∃ o es ep, s.heap.get? a = some o ∧ o.cls = .type "dict" ∧ o.data = .dict es ep ∧ es.toList = [] ∧ (a == sysModules) = false := by
  obtain ⟨_, ns, vs, kv, o, es, ep, h1, h2, h3, _, h5, _⟩ := dk_rd I.hok h
  cases kv
  have e : es.toList = [] := by cases q : es.toList with | nil => rfl | cons x xs => rw [q] at h5; cases h5
  exact ⟨o, es, ep, h1, h2.1, h3, e, ns⟩
mutual
theorem she_of (I : Inv X pins σ H s) : ∀ (d : PyData) {v : V} {u : Value}, DpE X.K H v d → RelV v u → d.showable = true → d.shown.length ≤ sizeLine → ShE X.prog X.w s.heap u d
  | .none, _, _, h, r, _, _ => by
    cases h; cases r
    exact ⟨⟨_, .none⟩, [], (fun _ z => nomatch z), by simp only [PyData.shown]; exact .of_is ReprIs.none _ _ _⟩
  | .bool b, _, _, h, r, _, _ => by
    cases h; cases r
    exact ⟨⟨_, .bool b⟩, [], (fun _ z => nomatch z), by simp only [PyData.shown]; exact .of_is (ReprIs.bool b) _ _ _⟩
  | .int i, _, _, h, r, g, _ => by
    cases h; obtain ⟨t, rfl⟩ := r
    exact ⟨⟨_, .int i t⟩, [], (fun _ z => nomatch z), by simp only [PyData.shown]; exact .of_is (ReprIs.int t (by simpa [PyData.showable] using g)) _ _ _⟩
  | .str x, _, _, h, r, _, z => by
    cases h; obtain ⟨t, rfl⟩ := r
    exact ⟨⟨_, .str x t⟩, [], (fun _ z => nomatch z), by simp only [PyData.shown]; exact .of_is (ReprIs.str x t (by simpa only [PyData.shown] using z)) _ _ _⟩
  | .list xs, _, _, h, r, g, z => by
    cases h with
    | lst hs ha =>
      rename_i a ys
      cases r
      obtain ⟨its, rv, ⟨o, n, ho, hc, _, hd⟩, _⟩ := I.list hs
      have hz : (listText (PyData.shownAll xs)).length ≤ sizeLine := by simpa only [PyData.shown] using z
      obtain ⟨⟨as, ra⟩, bs, hb, hk⟩ := she_all I xs ha rv (by simpa [PyData.showable] using g) fun t ht => Nat.le_trans (listText_mem_le ht) hz
      have rr : Reads s.heap (.ref a) (.list xs) _ := .list ho hc hd ra
      have out : a ∉ bs := not_mem_of_deeper rr (by simp only [PyData.depth]; omega) hb
      refine ⟨⟨_, rr⟩, a :: bs, ReadAtMost.cons rr (by simp only [PyData.depth]; omega) hb, ?_⟩
      simp only [PyData.depth, PyData.shown]
      cases its with
      | nil =>
        have ra' : ReadsAll s.heap [] xs as := ra
        cases ra'
        simp only [PyData.shownAll, listText_nil]
        exact ReprK.listEmpty ho hc hd
      | cons x l => exact ReprK.list ho hc hd out (by simpa using hk.length_eq) fun i y e => hk.item i y (by simpa using e)
  | .tuple xs, _, _, h, r, g, z => by
    cases h with
    | tup hs ha =>
      rename_i a ys
      cases r
      obtain ⟨its, rv, ⟨o, ho, hc, n, hd⟩, _⟩ := I.tuple hs
      have hz : (tupleText (PyData.shownAll xs)).length ≤ sizeLine := by simpa only [PyData.shown] using z
      obtain ⟨⟨as, ra⟩, bs, hb, hk⟩ := she_all I xs ha rv (by simpa [PyData.showable] using g) fun t ht => Nat.le_trans (tupleText_mem_le ht) hz
      have rr : Reads s.heap (.ref a) (.tuple xs) _ := .tuple ho hc hd ra
      have out : a ∉ bs := not_mem_of_deeper rr (by simp only [PyData.depth]; omega) hb
      refine ⟨⟨_, rr⟩, a :: bs, ReadAtMost.cons rr (by simp only [PyData.depth]; omega) hb, ?_⟩
      simp only [PyData.depth, PyData.shown]
      exact ReprK.tuple ho hc hd out hk
  | .dict ks, _, _, h, r, g, z => by
    cases h with
    | dic hs =>
      rename_i a
      cases r
      obtain ⟨o, es, ep, ho, hc, hd, he, ns⟩ := she_dict I hs
      have rr : Reads s.heap (.ref a) (.dict []) (a :: [] ++ []) := .dict ho hc hd (by rw [he]; exact .nil) (by rw [he]; exact .nil)
      refine ⟨⟨_, rr⟩, a :: ([] ++ []), ReadAtMost.cons rr (Nat.le_refl _) (fun _ z => nomatch z), ?_⟩
      simp only [PyData.depth, PyData.shown, PyData.shownKv_eq]
      exact ReprK.dict ho hc hd ns (fun z => nomatch z) (ReprEntriesK.of_two es.toList _ _ (by rw [he]; exact .nil) (by rw [he]; exact .nil))
theorem she_all (I : Inv X pins σ H s) : ∀ (ds : List PyData) {vs : List V} {us : List Value}, DpEA X.K H vs ds → Vals vs us → PyData.showableAll ds = true → (∀ t ∈ PyData.shownAll ds, t.length ≤ sizeLine) → ShEA X.prog X.w s.heap us ds
  | [], _, _, h, r, _, _ => by
    cases h; cases r
    exact ⟨⟨_, .nil⟩, [], (fun _ z => nomatch z), by simp only [PyData.shownAll]; exact .nil⟩
  | d :: ds, _, _, h, r, g, z => by
    cases h with
    | cons h1 h2 =>
      cases r with
      | cons r1 r2 =>
        have g' : d.showable = true ∧ PyData.showableAll ds = true := by simpa [PyData.showableAll] using g
        obtain ⟨⟨a1, q1⟩, b1, hb1, k1⟩ := she_of I d h1 r1 g'.1 (z _ (by simp only [PyData.shownAll]; exact List.mem_cons_self))
        obtain ⟨⟨a2, q2⟩, b2, hb2, k2⟩ := she_all I ds h2 r2 g'.2 fun t ht => z t (by simp only [PyData.shownAll]; exact List.mem_cons_of_mem _ ht)
        refine ⟨⟨_, .cons q1 q2⟩, b1 ++ b2, fun b hm => ?_, ?_⟩
        · simp only [PyData.depthAll]
          rcases List.mem_append.mp hm with hm | hm
          · obtain ⟨d', as', r', hd'⟩ := hb1 b hm
            exact ⟨d', as', r', Nat.le_trans hd' (Nat.le_max_left _ _)⟩
          · obtain ⟨d', as', r', hd'⟩ := hb2 b hm
            exact ⟨d', as', r', Nat.le_trans hd' (Nat.le_max_right _ _)⟩
        · simp only [PyData.depthAll, PyData.shownAll]
          exact .cons ((k1.more fun b hb => List.mem_append_left _ hb).level_le (Nat.le_max_left _ _)) (k2.more_le (fun b hb => List.mem_append_right _ hb) (Nat.le_max_right _ _))
end
/-- what a list or a tuple of them shows -/
theorem she_top (I : Inv X pins σ H s) : ∀ (d : PyData) {a : Addr}, DpE X.K H (.ref a) d → d.showable = true → d.shown.length ≤ sizeLine → ∃ T idr, ShowsBy X.prog X.w s.heap a d T idr
  | .list xs, a, h, g, z => by
    cases h with
    | lst hs ha =>
      obtain ⟨its, rv, ⟨o, n, ho, hc, _, hd⟩, _⟩ := I.list hs
      have hz : (listText (PyData.shownAll xs)).length ≤ sizeLine := by simpa only [PyData.shown] using z
      obtain ⟨⟨as, ra⟩, bs, hb, hk⟩ := she_all I xs ha rv (by simpa [PyData.showable] using g) fun t ht => Nat.le_trans (listText_mem_le ht) hz
      have rr : Reads s.heap (.ref a) (.list xs) _ := .list ho hc hd ra
      have out : a ∉ bs := not_mem_of_deeper rr (by simp only [PyData.depth]; omega) hb
      refine ⟨"list", "list.__repr__", F.slot_list_repr.toG, F.slot_list_str, F.slot_list_format, fun s' hk0 => ⟨o, hk0 _ _ ho, hc⟩, fun A E s' Q hg hu hk0 hQ => ?_⟩
      simp only [PyData.depth] at hu
      simp only [PyData.shown] at hQ
      cases its with
      | nil =>
        have ra' : ReadsAll s.heap [] xs as := ra
        cases ra'
        simp only [PyData.shownAll, listText_nil] at hQ
        exact call_list_repr_empty ⟨o, hk0 _ _ ho, hc⟩ (hk0 _ _ ho) hd (hQ s'.heap _ _ fun _ _ e => e)
      | cons x l => exact call_list_reprK ho hc hd out (by simpa using hk.length_eq) (fun i y e => hk.item i y (by simpa using e)) hg (fun b _ => Clear.nil b) hu hk0 hQ hz
  | .tuple xs, a, h, g, z => by
    cases h with
    | tup hs ha =>
      obtain ⟨its, rv, ⟨o, ho, hc, n, hd⟩, _⟩ := I.tuple hs
      have hz : (tupleText (PyData.shownAll xs)).length ≤ sizeLine := by simpa only [PyData.shown] using z
      obtain ⟨⟨as, ra⟩, bs, hb, hk⟩ := she_all I xs ha rv (by simpa [PyData.showable] using g) fun t ht => Nat.le_trans (tupleText_mem_le ht) hz
      have rr : Reads s.heap (.ref a) (.tuple xs) _ := .tuple ho hc hd ra
      have out : a ∉ bs := not_mem_of_deeper rr (by simp only [PyData.depth]; omega) hb
      refine ⟨"tuple", "tuple.__repr__", F.slot_tuple_repr, F.slot_tuple_str, F.slot_tuple_format, fun s' hk0 => ⟨o, hk0 _ _ ho, hc⟩, fun A E s' Q hg hu hk0 hQ => ?_⟩
      simp only [PyData.depth] at hu
      simp only [PyData.shown] at hQ
      exact call_tuple_reprK ho hc hd out hk hg (fun b _ => Clear.nil b) hu hk0 hQ hz
  | .dict ks, a, h, g, z => by
    cases h with
    | dic hs =>
      obtain ⟨o, es, ep, ho, hc, hd, he, ns⟩ := she_dict I hs
      have rr : Reads s.heap (.ref a) (.dict []) (a :: [] ++ []) := .dict ho hc hd (by rw [he]; exact .nil) (by rw [he]; exact .nil)
      exact showsBy_of_reads rr g (fun _ m => by
        have m' : sysModules = a := by simpa using m
        rw [← m'] at ns
        simp at ns) z
  | .none, _, h, _, _ => by cases h
  | .bool _, _, h, _, _ => by cases h
  | .int _, _, h, _, _ => by cases h
  | .str _, _, h, _, _ => by cases h
def rReprE (K : PySem.W.Frag) : List V → Hp → VK → Prop := fun vs H Q => ∃ v d, vs = [v] ∧ DpE K H v d ∧ d.showable = true ∧ d.depth < 60 ∧ d.shown.length ≤ sizeLine ∧ Q (.str d.shown) H
theorem call_reprE (hg : X.A.guards = some []) (hu : X.A.units + 64 < cLine) : CallR X (.builtin "repr") (rReprE X.K) := by
  intro pins s σ H xs us Q I r ⟨v, d, e, hd, h1, h3, h4, q⟩
  subst e
  obtain ⟨u, rfl, rv⟩ := vals1 r
  have top : ∀ a, v = .ref a → wpAny (model X.prog X.w) X.A (call (.builtin "repr") [.ref a]) (EP X pins σ Q) X.xe s := fun a e => by
    subst e
    obtain ⟨T, idr, S⟩ := she_top I d hd h1 h4
    have keep : ∀ b o, s.heap.get? b = some o → s.heap.get? b = some o := fun _ _ e => e
    exact call_repr_slot (by omega) (S.typeIs s keep) S.slotRepr (S.call X.A.in1 X.xe s _ hg (by show X.A.units + 1 + d.depth < cLine; omega) keep fun h' u tk hk => ⟨_, _, rfl, .str _, H, I.kept hk, ⟨_, rfl⟩, q⟩)
  cases d with
  | none => cases hd; cases rv; exact PySem.P.repr_of_none ⟨.str _, H, I.tok _, ⟨_, rfl⟩, q⟩
  | bool b => cases hd; cases rv; exact PySem.P.repr_of_bool ⟨.str _, H, I.tok _, ⟨_, rfl⟩, q⟩
  | int i => cases hd; obtain ⟨t, rfl⟩ := rv; exact PySem.P.repr_of_int (of_decide_eq_true h1) ⟨.str _, H, I.tok _, ⟨_, rfl⟩, q⟩
  | str x => cases hd; obtain ⟨t, rfl⟩ := rv; exact PySem.P.repr_of_str ⟨.str _, H, I.tok _, ⟨_, rfl⟩, q⟩ h4
  | list ds =>
    cases v with
    | ref a => cases rv; exact top a rfl
    | _ => cases hd
  | tuple ds =>
    cases v with
    | ref a => cases rv; exact top a rfl
    | _ => cases hd
  | dict ks =>
    cases v with
    | ref a => cases rv; exact top a rfl
    | _ => cases hd
end
def fReprE : DFn := fun ds c R => match ds with
  | [d] => smallE d ∧ (pyE d).depth < 60 ∧ wt d ≤ sizeLine ∧ R (.str (pyE d).shown) c
  | _ => False
theorem callD_reprE {K : PySem.W.Frag} : CallD K (rReprE K) fReprE := by
  intro as H0 H σ c vs ds R Q ok r h k
  unfold fReprE at h
  split at h
  · obtain ⟨v, rfl, r1⟩ := rpa1 r
    obtain ⟨h1, h2, h3, h4⟩ := h
    obtain ⟨a2, a4⟩ := smallE_shown h1
    exact ⟨v, _, rfl, rpE ok.c.ex h1 r1, a2, h2, Nat.le_trans a4 h3, k _ _ _ _ _ _ .refl ok (.str _) h4⟩
  · exact h.elim
end DL

/-! == and != with an empty list or tuple; a list so many times; in a dict that changes no more -/
namespace DL
open L2 PySem PySem.Spec PyProof.Rows
section
variable {X : Cx} {K : PySem.W.Frag} {a b : Expr} {da db : DE} {pos : Pos}
def rNil (K : PySem.W.Frag) (neg : Bool) : R2 := fun x y H Q => ∃ p q xs, x = .ref p ∧ y = .ref q ∧ (SqL K H p xs ∧ SqL K H q [] ∨ SqT K H p xs ∧ SqT K H q []) ∧ Q (.bl (neg != xs.isEmpty)) H
theorem isE_len {α β : Type} {xs : List α} {ys : List β} (h : xs.length = ys.length) : xs.isEmpty = ys.isEmpty := by
  cases xs <;> cases ys <;> first | rfl | simp at h
theorem op_eqNil (hu : X.A.units + 64 < cLine) : OpR X (compareOp .Eq) (rNil X.K false) := by
  intro pins s σ H x y v u Q I rx ry h
  obtain ⟨p, q, xs, rfl, rfl, h, hq⟩ := h
  cases rx
  cases ry
  have done : EP X pins σ Q (.bool xs.isEmpty) s := ⟨.bl _, H, I, rfl, by cases e : xs.isEmpty <;> rw [e] at hq <;> exact hq⟩
  rcases h with ⟨h1, h2⟩ | ⟨h1, h2⟩
  · obtain ⟨us, r1, p1, _⟩ := I.list h1
    obtain ⟨ws, r2, p2, _⟩ := I.list h2
    cases r2
    rw [isE_len r1.length] at done
    cases us with
    | nil => exact SeqAt.rcP_lists (e := fun _ => true) p1.isList p2.isList rfl (by omega) (fun j j1 _ => absurd j1 (Nat.not_lt_zero j)) _ _ done
    | cons z zs => exact SeqAt.RcAt.lists_lengths p1.isList p2.isList (by simp) (by omega) X.prog X.w _ _ done
  · obtain ⟨us, r1, p1, _⟩ := I.tuple h1
    obtain ⟨ws, r2, p2, _⟩ := I.tuple h2
    cases r2
    rw [isE_len r1.length] at done
    refine SeqAt.rcIn_tuples (e := fun _ => true) (show s.heap.IsTuple p us.toArray from p1) (show s.heap.IsTuple q #[] from p2) (by omega) (fun j _ j2 => absurd j2 (Nat.not_lt_zero j)) ?_
    cases us with
    | nil => exact done
    | cons z zs => simpa using done
theorem op_neNil (hu : X.A.units + 64 < cLine) : OpR X (compareOp .NotEq) (rNil X.K true) := by
  intro pins s σ H x y v u Q I rx ry h
  obtain ⟨p, q, xs, rfl, rfl, h, hq⟩ := h
  cases rx
  cases ry
  have done : EP X pins σ Q (.bool !xs.isEmpty) s := ⟨.bl _, H, I, rfl, by cases e : xs.isEmpty <;> rw [e] at hq <;> exact hq⟩
  rcases h with ⟨h1, h2⟩ | ⟨h1, h2⟩
  · obtain ⟨us, r1, p1, _⟩ := I.list h1
    obtain ⟨ws, r2, p2, _⟩ := I.list h2
    cases r2
    rw [isE_len r1.length] at done
    cases us with
    | nil => exact SeqAt.RcNeAt.lists (e := fun _ => true) p1.isList p2.isList rfl (by omega) (fun j j1 _ => absurd j1 (Nat.not_lt_zero j)) X.prog X.w _ _ done
    | cons z zs => exact SeqAt.RcNeAt.lists_lengths p1.isList p2.isList (by simp) (by omega) X.prog X.w _ _ done
  · obtain ⟨us, r1, p1, _⟩ := I.tuple h1
    obtain ⟨ws, r2, p2, _⟩ := I.tuple h2
    cases r2
    rw [isE_len r1.length] at done
    refine SeqAt.RcNeAt.tuples (e := fun _ => true) (show s.heap.IsTuple p us.toArray from p1) (show s.heap.IsTuple q #[] from p2) (by omega) (fun j _ j2 => absurd j2 (Nat.not_lt_zero j)) X.prog X.w _ _ ?_
    cases us with
    | nil => exact done
    | cons z zs => simpa using done
def dNilN (neg : Bool) : DF := fun x y c R => match x, y with
  | .lst xs, .lst [] => R (.bl (neg != xs.isEmpty)) c
  | .slst xs, .lst [] => R (.bl (neg != xs.isEmpty)) c
  | .tup xs, .tup [] => R (.bl (neg != xs.isEmpty)) c
  | .cel k, .lst [] => ∃ xs, c.cs k = some (.lst xs) ∧ R (.bl (neg != xs.isEmpty)) c
  | _, _ => False
def dEqNil : DF := dNilN false
def dNeNil : DF := dNilN true
theorem opD_nil {neg : Bool} : OpD K (rNil K neg) (dNilN neg) := by
  intro as H0 H σ c v1 v2 d1 d2 R Q ok r1 r2 h k
  unfold dNilN at h
  split at h
  · cases r1 with
    | lst g1 g2 =>
      cases r2 with
      | lst g3 g4 =>
        cases g4
        exact ⟨_, _, _, rfl, rfl, .inl ⟨SqL.of (ok.c.ex _ _ g1), SqL.of (ok.c.ex _ _ g3)⟩, by rw [isE_len g2.length]; exact k _ _ _ _ _ _ .refl ok (.bl _) h⟩
  · cases r1 with
    | slst g1 g2 =>
      cases r2 with
      | lst g3 g4 =>
        cases g4
        exact ⟨_, _, _, rfl, rfl, .inl ⟨seqL_mono ok.c.ex g1, SqL.of (ok.c.ex _ _ g3)⟩, by rw [isE_len g2.length]; exact k _ _ _ _ _ _ .refl ok (.bl _) h⟩
  · cases r1 with
    | tup g1 g2 =>
      cases r2 with
      | tup g3 g4 =>
        cases g4
        exact ⟨_, _, _, rfl, rfl, .inr ⟨seqT_mono ok.c.ex g1, seqT_mono ok.c.ex g3⟩, by rw [isE_len g2.length]; exact k _ _ _ _ _ _ .refl ok (.bl _) h⟩
  · obtain ⟨xs, h1, h2⟩ := h
    obtain ⟨p, vs, rfl, _, g3, g4⟩ := cell_lst ok r1 h1
    cases r2 with
    | lst g1 g2 =>
      cases g2
      exact ⟨_, _, _, rfl, rfl, .inl ⟨SqL.of g3, SqL.of (ok.c.ex _ _ g1)⟩, by rw [isE_len g4.length]; exact k _ _ _ _ _ _ .refl ok (.bl _) h2⟩
  · exact h.elim
theorem pd_eqNil (hu : X.A.units + 64 < cLine) (ha : PD X a da) (hb : PD X b db) : PD X (.Compare a [.Eq] [b] pos) (dBin dEqNil da db) := pd_cmp (op_eqNil hu) opD_nil ha hb (nomark _)
theorem pd_neNil (hu : X.A.units + 64 < cLine) (ha : PD X a da) (hb : PD X b db) : PD X (.Compare a [.NotEq] [b] pos) (dBin dNeNil da db) := pd_cmp (op_neNil hu) opD_nil ha hb (nomark _)
theorem rpa_rep {as : AsM} {H : Hp} {vs : List V} {ds : List D} (r : RpA K as H vs ds) : ∀ n : Nat, RpA K as H (List.replicate n vs).flatten (List.replicate n ds).flatten
  | 0 => .nil
  | n + 1 => by
    rw [List.replicate_succ, List.replicate_succ, List.flatten_cons, List.flatten_cons]
    exact r.append (rpa_rep r n)
/-- x in d, d a dict that changes no more -/
def dInFN (neg : Bool) : DF := fun x y c R => onDic y fun kvs => onKey x fun k => R (.bl (if neg then !(lookD kvs k).isSome else (lookD kvs k).isSome)) c
def dInF : DF := dInFN false
theorem opD_inF {neg : Bool} : OpD K (rInR neg) (dInFN neg) := by
  intro as H0 H σ c v1 v2 d1 d2 R Q ok r1 r2 q0 kk
  obtain ⟨kvs, h1, q0⟩ := onDic_of q0
  obtain ⟨k, h3, h4⟩ := onKey_of q0
  subst h1
  cases r2 with
  | dic g1 g2 =>
    refine ⟨_, _, k, rfl, key_rp r1 h3, .inr ⟨_, ok.c.ex _ _ g1⟩, ?_⟩
    rw [look_some g2]
    exact kk _ _ _ _ _ _ .refl ok (.bl _) h4
end
end DL

/-! max and min of a tuple of ints -/
namespace DL
open L2 PySem PySem.Spec PyProof.Rows
section
variable {X : Cx} {K : PySem.W.Frag}
end
end DL

/-! a dict comprehension as a value; a <= b <= c < d as a test -/
namespace L2
open PySem PySem.Spec PyProof.Rows
section
variable {X : Cx} {ta tb tc td : TE} {a b c d : Expr} {pos : Pos}
end
end L2
namespace DL
open L2 PySem PySem.Spec PyProof.Rows
section
variable {X : Cx} {da db dc dd : DE} {a b c d : Expr} {pos : Pos} {K : PySem.W.Frag}
end
end DL

/-! a, b, *rest = t -/
namespace L2
open PySem PySem.Spec PySem.Calls PyProof.Rows
section
variable {prog : Program} {w : World} {A : Around} {E : Value → Shared → Prop} {s : Shared}
end
section
variable {P : Program} {w : World} {H : Hp} {h : Heap} {a : Addr}
end
section
variable {X : Cx} {pos : Pos}
end
end L2
namespace DL
open L2 PySem PySem.Spec PyProof.Rows
section
variable {X : Cx} {pos : Pos}
end
end DL

/-! text.split(sep), sep.join(texts) -/
namespace DL
open L2 PySem PySem.Spec PyProof.Rows
section
variable {X : Cx} {o e : Expr} {do_ de : DE} {apos pos : Pos}
end
end DL

/-! raise of an own exception class over ValueError with its own __init__, that keeps fields -/
namespace DL
open L2 PySem PySem.Spec PyProof.Rows
/-- the i-th statement of a class's body -/
def clsKid (st : Stmt) (i : Nat) : Stmt := match st with | .ClassDef _ _ _ b _ _ _ _ _ _ _ => b.getD i (.Pass ⟨0, 0, 0, 0⟩) | _ => .Pass ⟨0, 0, 0, 0⟩
/-- what the base class G, own, without its own __init__, must be for G.__init__(self, ..) -/
structure ClsI (K : PySem.W.Frag) (G : Addr) : Prop where
  r : PySem.W.readsIn K G (.type "type") = true
  s : PySem.W.specialIn K (.ref G) "__getattribute__" = some (some (.builtin "type.__getattribute__"))
  f : PySem.W.findCls K (.ref G) (.type "type") "__init__" = some (.val (.builtin "ValueError.__init__"))
section
variable {X : Cx} {e : Expr} {es : List Expr} {ta : TA} {p1 p2 pos : Pos} {B : Str} {G : Addr}
theorem pe_gateinit (T : ClsI X.K G) (hg : Gl X B) (hm : X.mg B = some (.ref G)) (ha : PA X (e :: es) ta)
    (hdb : (B == ("__debug__" : Str)) = false := by decide)
    (hbase : attributeBase (.Name B p1) "__init__" X.env (eval (.Name B p1) X.env) = eval (.Name B p1) X.env := by rfl)
    (hfew : ((backTo pos (starEach (e :: es) X.env)).all (fun x => !x.1) && (backToKw pos (keywordEach [] X.env)).all (fun x => x.1.isSome)
      && decide ((e :: es).length + ([] : List Keyword).length + (if ([] : List Keyword).isEmpty then 0 else 1) < 30)) = true := by rfl)
    (hline : (p2.endLine == pos.line) = true := by rfl)
    (he : starEach (e :: es) X.env = (false, eval e X.env) :: starEach es X.env := by rfl) (hpl : (backTo pos (starEach es X.env)).any (·.1) = false := by rfl) :
    PE X (.Call (.Attribute (.Name B p1) "__init__" p2) (e :: es) [] pos) (tVeI X.K ta) := by
  refine ⟨fun pins s σ H Q I h => ?_⟩
  rw [arm_eval_Call, hbase]
  refine wpAny_bind (ld_glob I hg hm ?_ hdb)
  refine wpAny_bind (wpAny_standAt ?_)
  have hform : methodCallForm ((e :: es).length + ([] : List Keyword).length) (backTo pos (starEach (e :: es) X.env)) (backToKw pos (keywordEach [] X.env)) = true := hfew
  have hpos : methodCallPos true (.Name B p1) X.env p2 pos = pure pos := by unfold methodCallPos; simp [hline]
  unfold methodCall
  rw [hform]
  refine wpAny_bind (wpAny_holding (PySem.W.method_cls I.kIn T.s (PySem.W.cls_value I.kIn T.r T.f (by decide +kernel) ?_)))
  refine wpAny_bind (wpAny_of_eq hpos ?_)
  show wpAny _ _ (callWith pos (Value.builtin "ValueError.__init__") [] (backTo pos (starEach (e :: es) X.env)) []) _ _ _
  refine PyProof.Rows.callWith_method1 (thn (ha.run pos pins _ σ H _ (I.tok _) h) fun us s1 ⟨vs, H1, I1, r1, a, C, ws, ev, hl, T, ea, q⟩ => ?_) he hpl
  subst ev
  cases r1 with
  | @cons _ u0 _ ur ra rw' =>
    obtain rfl : u0 = Value.ref a := ra
    have hlen : ur.length ≤ sizeLine := by
      rw [← Paired.length rw', sizeLine_eq]
      omega
    exact oinit_ok T I1 ea hlen fun s' J => ⟨.non, H1, J, rfl, q⟩
end
/-! ### what such an __init__ does -/
def spI (C : Addr) (fs : List Str) : Sp := fun vs H Q _ => ∃ (a : Addr) (ys : List V), vs = .ref a :: ys ∧ ys.length = fs.length ∧ H a = some (exo a C none) ∧
  ∀ dx, H dx = none → dx ≠ a → Q .non (upd (upd H dx (exd dx (fs.zip ys).reverse)) a (exo a C (some dx)))
section
variable {P : Program} {w : World} {K : PySem.W.Frag} {mg : Str → Option Value} {base : Heap} {qual B m f1 f2 : Str} {params : Arguments} {body : List Stmt} {scope : Scope} {f C G : Addr} {fd : FuncData} {j : Nat} {p1 p2 p3 p4 p5 p6 p7 p8 p9 p10 q7 q8 q9 q10 : Pos}
theorem upd_twice {H : Hp} {a d : Addr} {o u o2 : HO} (h : d ≠ a) : upd (upd (upd H d o) a u) d o2 = upd (upd H d o2) a u := by
  funext b
  by_cases h1 : b = d
  · subst h1; rw [upd_same, upd_ne h, upd_same]
  · rw [upd_ne h1]
    by_cases h2 : b = a
    · subst h2; rw [upd_same, upd_same]
    · rw [upd_ne h2, upd_ne h1, upd_ne h2, upd_ne h1]
theorem init2 (F : FunD K "__init__" qual params body scope [] [] f fd) (S : FnScope ["self", f1, f2] ["self", f1, f2] scope)
    (hbd : body = [.Expr (.Call (.Attribute (.Name B p1) "__init__" p2) [.Name "self" p3, .Constant (.str m) j p4] [] p5) p6, .Assign [.Attribute (.Name "self" p7) f1 p8] (.Name f1 p9) p10, .Assign [.Attribute (.Name "self" q7) f2 q8] (.Name f2 q9) q10])
    (hG : scope.names.lookup B = some .globalImplicit) (hS : scope.names.lookup ("self" : Str) = some NameKind.local) (h1 : scope.names.lookup f1 = some .local) (h2 : scope.names.lookup f2 = some .local)
    (hB : (B == ("__debug__" : Str)) = false) (hd1 : (f1 == ("__debug__" : Str)) = false) (hc1 : (f1 == ("__classdict__" : Str)) = false) (hd2 : (f2 == ("__debug__" : Str)) = false) (hc2 : (f2 == ("__classdict__" : Str)) = false)
    (hl : (p2.endLine == p5.line) = true) (hm : mg B = some (.ref G)) (T : ClsI K G) (TO : OexC K C) (n1 : PySem.W.findIn K (.ref C) f1 = some none) (n2 : PySem.W.findIn K (.ref C) f2 = some none) : FnOk P w K mg base CX0 1 f fd ["self", f1, f2] (spI C [f1, f2]) := by
  obtain ⟨oc, od, dV, kV, doc, pm, an, cdv, ct, osl, rfl, lk, hcd, _, _⟩ := F.ex
  subst hbd
  refine fn_of lk hcd S (fun vs H Q E ⟨a, ys, e, l, _⟩ => by rw [e]; simp [l]) fun A outer s H vs Q E hr ⟨a, ys, ev, l, ha, q⟩ => ?_
  match ys, l with
  | [y, z], _ =>
  subst ev
  have pself : ∀ p, PE (cxOf CX0 P w K mg base ["self", f1, f2] qual scope f cdv A outer s H E) (.Name "self" p) (tVar 0) := fun p => pe_var (i := 0) rfl (.inl hS) (by decide) (by decide)
  refine ⟨_, pss_cons (ps_expr (pe_gateinit T (show Gl _ _ from hG) hm (pa_cons (pself _) (pa_cons pe_str pa_nil)) hB (hline := hl))) (pss_cons (ps_ost (pself _) (pe_var (i := 1) rfl (.inl h1) hd1 hc1)) (pss_one (ps_ost (pself _) (pe_var (i := 2) rfl (.inl h2) hd2 hc2)))), ?_⟩
  refine ⟨_, rfl, a, C, [.str m], rfl, by show 1 ≤ 1000; decide, TO, ha, ?_⟩
  refine ⟨_, rfl, _, rfl, a, C, rfl, TO, n1, .inl ⟨ha, fun dx hdx hne => ?_⟩⟩
  refine ⟨_, rfl, _, rfl, a, C, rfl, TO, n2, .inr ⟨dx, _, upd_same, by rw [upd_ne hne, upd_same], by show 1 ≤ 900; decide, ?_⟩⟩
  rw [upd_twice hne]
  exact q dx hdx hne
end
/-! ### raise C(e, ..) -/
/-- what the text's own exception class C, with its own __init__ that keeps the fields fs, must be -/
structure ExF (P : Program) (w : World) (K : PySem.W.Frag) (mg : Str → Option Value) (base : Heap) (x : Str) (C : Addr) (fs : List Str) : Prop where
  T : OexC K C
  g : mg x = some (.ref C)
  ex : ∃ (fI : Addr) (fd : FuncData), PySem.W.findIn K (.ref C) "__init__" = some (some (.ref fI)) ∧ PySem.W.typeIn K (.ref fI) = some (.type "function") ∧ FnOk P w K mg base CX0 1 fI fd ("self" :: fs) (spI C fs) ∧ Binds K fd ("self" :: fs) []
def sRaiseF (x : Str) (fs : List Str) (da : DA) : DS := fun DD c => da c fun ds c1 => ds.length = fs.length ∧ ds.length ≤ 1000 ∧ DD.xx ⟨x, some (fs.zip ds).reverse⟩ c1
theorem upd_del {H : Hp} {a d : Addr} {o u u2 z : HO} (ha : H a = none) (hne : d ≠ a) : upd (L2.del (upd (upd (upd H a u2) d o) a u) a) d z = upd H d z := by
  funext b
  by_cases h1 : b = d
  · subst h1; rw [upd_same, upd_same]
  · rw [upd_ne h1, upd_ne h1]
    by_cases h2 : b = a
    · subst h2; rw [L2.del_same]; exact ha.symm
    · rw [L2.del_ne h2, upd_ne h2, upd_ne h1, upd_ne h2]
theorem paired_zip {K : PySem.W.Frag} {as : AsM} {H : Hp} : ∀ {fs : List Str} {vs : List V} {ds : List D}, RpA K as H vs ds → Paired (fun (p : Str × V) (q : Str × D) => p.1 = q.1 ∧ Rp K as H p.2 q.2) (fs.zip vs) (fs.zip ds)
  | [], _, _, _ => by simp only [List.zip_nil_left]; exact .nil
  | f :: fs, [], [], _ => .nil
  | f :: fs, _, d :: ds, h => by cases h with | cons h1 h2 => exact .cons ⟨rfl, h1⟩ (paired_zip h2)
  | f :: fs, _, [], h => by cases h; exact .nil
theorem paired_app {α β : Type} {R : α → β → Prop} : ∀ {a a' : List α} {b b' : List β}, Paired R a b → Paired R a' b' → Paired R (a ++ a') (b ++ b')
  | _, _, _, _, .nil, h => h
  | _, _, _, _, .cons h1 h2, h => .cons h1 (paired_app h2 h)
theorem paired_rev {α β : Type} {R : α → β → Prop} : ∀ {a : List α} {b : List β}, Paired R a b → Paired R a.reverse b.reverse
  | _, _, .nil => .nil
  | _, _, .cons h1 h2 => by rw [List.reverse_cons, List.reverse_cons]; exact paired_app (paired_rev h2) (.cons h1 .nil)
section
variable {X : Cx} {x : Str} {C : Addr} {fs : List Str} {p cp pos : Pos} {e : Expr} {es : List Expr} {da : DA} {n : Nat}
theorem pds_raiseF (hc : X.calm = true) (T : ExF X.prog X.w X.K X.mg X.base x C fs) (hr : Room 2 X.A) (hg : Gl X x) (ha : PDA X (e :: es) da) (hdb : (x == ("__debug__" : Str)) = false := by decide)
    (he : starEach (e :: es) X.env = (false, eval e X.env) :: starEach es X.env := by rfl) (hpl : (backTo cp (starEach es X.env)).any (·.1) = false := by rfl) :
    PDS X (.Raise (some (.Call (.Name x p) (e :: es) [] cp)) none pos) (sRaiseF x fs da) := by
  intro W tk
  obtain ⟨fI, fd, iC, tI, F1, hb⟩ := T.ex
  refine ps_imp (ps_raise hc tk (pmk_oex (dvs := []) (ds := []) T.T iC tI F1 hr hb .nil pass0 hg T.g ha hdb he hpl)) fun Dn σ H ⟨as, H0, c, DD, ok, q, k⟩ => ⟨as, H0, c, _, ok, q, fun as1 H1 Hn1 c1 vs ds l1 ok1 r1 ⟨z1, z2, q1⟩ => ?_⟩
  refine ⟨by rw [r1.length]; exact z2, fun a ha1 => ⟨a, vs, by rw [List.append_nil], by rw [r1.length]; exact z1, upd_same, fun dx hdx hne => ⟨rfl, dx, _, upd_same, by rw [upd_ne hne, upd_same], ?_, ?_⟩⟩⟩
  · rw [upd_ne hne] at hdx; exact hdx
  · rw [upd_ne hne] at hdx
    rw [upd_del ha1 hne]
    obtain ⟨l, ok2⟩ := new_known (o := .xd (fs.zip vs).reverse) ok1 hdx
    exact k.xx _ _ _ _ _ _ _ _ (l1.trans l) ok2 (.fs upd_same (paired_rev (paired_zip (r1.mono l)))) T.g q1
end
end DL

/-! sets of texts: set.add, a set comprehension of texts, sorted of it -/
namespace DL
open L2 PySem PySem.Spec PyProof.Rows PpSet
section
variable {X : Cx}
end
/-! #### by data -/
section
variable {K : PySem.W.Frag} {X : Cx}
end
end DL

/-! a kept exception's field; isinstance of a kept one and a tuple of classes; d.get(x), d a dict of the module of whole numbers -/
namespace DL
open L2 PySem PySem.Spec PyProof.Rows
section
variable {X : Cx}
/-! ### the field of a kept exception -/
def dXF (okx : Str → Bool) (f : Str) (da : DE) : DE := fun c R => da c fun d c1 => onCel d fun k => ∃ x fs v, c1.cs k = some (.exc x) ∧ okx x.cls = true ∧ x.fs = some fs ∧ fs.lookup f = some v ∧ R v c1
theorem paired_lookup {K : PySem.W.Frag} {as : AsM} {H : Hp} {f : Str} : ∀ {vs : List (Str × V)} {ds : List (Str × D)} {d : D}, Paired (fun (p : Str × V) (q : Str × D) => p.1 = q.1 ∧ Rp K as H p.2 q.2) vs ds → ds.lookup f = some d → ∃ v, vs.lookup f = some v ∧ Rp K as H v d
  | _, _, _, .nil, h => by cases h
  | _, _, d, .cons (a := p) (b := q) h1 h2, h => by
    obtain ⟨p1, p2⟩ := p
    obtain ⟨q1, q2⟩ := q
    obtain ⟨e, r⟩ := h1
    dsimp only at e
    subst e
    rw [lookup_put]
    have h' : ((p1, q2) :: _).lookup f = some d := h
    by_cases z : f = p1
    · rw [if_pos z]
      subst z
      simp [List.lookup] at h'
      subst h'
      exact ⟨_, rfl, r⟩
    · rw [if_neg z]
      have e : (f == p1) = false := by simpa using z
      simp [List.lookup, e] at h'
      exact paired_lookup h2 h'
variable {e : Expr} {da : DE} {pos p : Pos} {f : Str} {okx : Str → Bool}
theorem pd_xF (ha : PD X e da) (h : ∀ r C, okx r = true → ClsK X.K r C → XfC X.K C ∧ PySem.W.findIn X.K (.ref C) f = some none) (hb : attributeBase e f X.env (eval e X.env) = eval e X.env := by rfl) : PD X (.Attribute e f pos) (dXF okx f da) := by
  refine ⟨fun pins s σ H Q I ⟨as, H0, c, R, ok, q, k⟩ => ?_⟩
  refine attr_of hb (thn (ha.run pins s σ H _ I ⟨as, H0, c, _, ok, q, fun as1 H1 Hn1 c1 v d l1 ok1 r1 q1 => (⟨as1, H1, c1, d, l1, ok1, r1, q1⟩ : ∃ as1 H1 c1 d, Le as H0 as1 H1 ∧ Ok X.K as1 H1 Hn1 σ c1 ∧ Rp X.K as1 H1 v d ∧ onCel d fun k => ∃ x fs v, c1.cs k = some (.exc x) ∧ okx x.cls = true ∧ x.fs = some fs ∧ fs.lookup f = some v ∧ R v c1)⟩) fun u s1 hh => ?_)
  obtain ⟨v, Hn1, I1, rx, as1, H1, c1, d, l1, ok1, r1, q1⟩ := hh
  obtain ⟨j, e1, x, fs, vd, e3, e4, e5, e6, q2⟩ := onCel_of q1
  subst e1
  obtain ⟨a, C, dd, rfl, ap, hH, xd, cl⟩ := cell_exc ok1.c r1 e3
  obtain ⟨T, hno⟩ := h _ _ e4 cl
  cases xd with
  | no => cases e5
  | @fs C' dx vs ds g1 g2 =>
    cases e5
    obtain ⟨vv, g3, g4⟩ := paired_lookup g2 e6
    obtain rfl : u = Value.ref a := rx
    obtain ⟨⟨oe, ho, hz, fvs, hv⟩, _⟩ := I1.hok a _ hH
    obtain ⟨mA, hns, hr⟩ := (show ObjOk X.prog X.w Hn1 s1.heap dx (.xd vs) from I1.hok dx _ (ok1.c.ex _ _ g1))
    obtain ⟨od, hod, hl⟩ := lookIn_ns hns
    obtain ⟨u, hu, ru⟩ := RelO.some_of (v := vv) (o := mA f) (by rw [← g3]; exact hr f)
    have J : PySem.W.InstAt s1.heap a oe C (some od) := ⟨ho, hz.1, by unfold PySem.W.notCls; rw [hv] <;> rfl, by rw [hz.2]; exact hod⟩
    exact HandSPX.exc_get I1.kIn J T.ga T.gg T.exC (PySem.W.findObj_own T.hdC hno rfl (by rw [hl, hu])) (handed_of ru) ⟨vv, Hn1, I1.tok _, ru, k _ _ _ _ _ _ l1 ok1 g4 q2⟩
/-! ### isinstance(x, (A, B, ..)), x kept -/
variable {ob : Str → Option Bool} {es : List Expr} {cvs : List Value}
/-! ### d.get(x), d a dict of the module, texts to whole numbers -/
end
end DL

/-! zip of a list and a tuple, walked -/
namespace DL
open L2 PySem PySem.Spec PyProof.Rows
section
variable {prog : Program} {w : World} {A : Around} {E : Value → Shared → Prop} {s : Shared}
end
end DL

/-! a text, walked sign by sign; texts compared -/
namespace DL
open L2 PySem PySem.Spec PyProof.Rows
def signsD (s : Str) : List D := s.cps.toList.map fun c => D.str ⟨#[c]⟩
def iStrD (da : DE) : DI := fun c R => da c fun d c1 => onStr d fun s => R (signsD s) c1
theorem itd_str {K : PySem.W.Frag} {am : AsM} {H0 : Hp} (s : Str) : ItD K am H0 (Its s) (signsD s) where
  go := fun am' H0' H cs i l ok h => by
    have h' : i < s.cps.size := by simpa [signsD] using h
    exact h'
  yld := fun am' H0' H cs i x H' d l ok h ⟨e, c, e2, e3⟩ => by
    subst e e3
    have : d = .str ⟨#[c]⟩ := by
      unfold signsD at h
      rw [List.getElem?_map, Array.getElem?_toList, e2] at h
      exact (Option.some.inj h).symm
    subst this
    exact ⟨H0', .refl, ok, .str _⟩
  stop := fun am' H0' H cs l ok => by
    show s.cps.size ≤ (signsD s).length
    simp [signsD]
theorem pdi_str {X : Cx} {tg e : Expr} {da : DE} (he : PD X e da) : PDI X tg e (iStrD da) :=
  ⟨_, pi_str he, fun σ H Q ⟨as, H0, c, R, ok, q, k⟩ => ⟨as, H0, c, _, ok, q, fun as1 H1 Hn1 c1 v d l1 ok1 r1 q1 => by
    obtain ⟨s, rfl, q1⟩ := onStr_of q1
    cases r1
    exact ⟨s, rfl, k _ _ _ _ _ _ l1 ok1 (itd_str s) q1⟩⟩⟩
def dLeS : DF := fun x y c R => match x, y with | .str i, .str j => R (.bl (!decide (j.cps.toList < i.cps.toList))) c | _, _ => False
theorem opD_leS {K : PySem.W.Frag} : OpD K (fun x y H Q => ∃ i j, x = .str i ∧ y = .str j ∧ Q (.bl (!decide (j.cps.toList < i.cps.toList))) H) dLeS := by
  intro as H0 H σ c v1 v2 d1 d2 R Q ok r1 r2 h k
  cases d1 with
  | str i =>
    cases d2 with
    | str j =>
      cases r1
      cases r2
      exact ⟨i, j, rfl, rfl, k _ _ _ _ _ _ .refl ok (.bl _) h⟩
    | _ => exact h.elim
  | _ => exact h.elim
end DL

/-! isinstance(x, list), x a list that may change -/
namespace DL
open L2 PySem PySem.Spec PyProof.Rows
end DL

/-! f-strings; s.startswith(t); c in "..", c a sign; int(text); defs as data: tables of them, calls by a local name -/
namespace DL
open L2 PySem PySem.Spec PyProof.Rows
section
variable {X : Cx} {K : PySem.W.Frag}
/-! ### f-strings -/
/-! ### s.startswith(t) -/
/-! ### a sign in a text -/
/-! ### int(text) -/
/-! ### defs as data -/
theorem pd_fnv {x : Str} {pos : Pos} {f : Addr} (hg : Gl X x) (hm : X.mg x = some (.ref f)) (hc : ClsK X.K x f) (hd : (x == ("__debug__" : Str)) = false := by decide) : PD X (.Name x pos) (dC (.fn x)) :=
  pd_glob (v := .ref f) hg hm rfl (fun _ _ => .fn hc) hd
/-- a def that is held: what calls of n things by place ask -/
def HeldD (X : Cx) (k n : Nat) (S : Str → Option Sem) : Prop := ∀ x sem f, S x = some sem → ClsK X.K x f → ∃ fd ps, FnG X.prog X.w X.K X.mg X.base CX0 k f fd ps (FnD X.K sem) ∧ PySem.W.keepIn X.K (.ref f) = true ∧ Bnd X.K fd ps n [] (fun ds _ => ds)
def dCallV (i n : Nat) (S : Str → Option Sem) (da : DA) : DE := fun c R => ∃ x sem, c.env[i]? = some (some (.fn x)) ∧ S x = some sem ∧ da c fun ds c1 => ds.length = n ∧ sem ds c1.cs fun d cs' => R d { c1 with cs := cs' }
theorem pd_callV (i : Nat) {k n : Nat} {S : Str → Option Sem} {x : Str} {p pos : Pos} {e : Expr} {es : List Expr} {da : DA} (F : HeldD X k n S) (hgd : X.A.guards = some []) (hr : Room k X.A)
    (ha : PDA X (e :: es) da) (hN : X.N[i]? = some x := by rfl) (hv : Vis X.env.scope x := by first | exact Or.inl rfl | exact Or.inr (Or.inl rfl) | exact Or.inr (Or.inr rfl)) (hdb : (x == ("__debug__" : Str)) = false := by decide) (hcd : (x == ("__classdict__" : Str)) = false := by decide)
    (he : starEach (e :: es) X.env = (false, eval e X.env) :: starEach es X.env := by rfl) (hpl : (backTo pos (starEach es X.env)).any (·.1) = false := by rfl) :
    PD X (.Call (.Name x p) (e :: es) [] pos) (dCallV i n S da) := by
  refine ⟨fun pins s σ H Q I ⟨as, H0, c, R, ok, ⟨y, sem, e1, e2, q⟩, kk⟩ => ?_⟩
  obtain ⟨v, hvv, rv⟩ := ok.e.at_ i _ e1
  cases rv with
  | fn hcl =>
    rename_i f
    obtain ⟨fd, ps, FG, hk, hb⟩ := F _ _ _ e2 hcl
    refine wpAny_Call_Name_kw (thn ((pe_var (i := i) hN hv hdb hcd).run pins s σ H (fun v' H' => v' = .ref f ∧ H' = H) I ⟨_, hvv, rfl, rfl⟩) fun u s0 ⟨v', H', I0, ru, ev, eh⟩ => ?_)
    subst ev eh
    obtain rfl : u = Value.ref f := ru
    have arg : liftA X.K da σ H' fun vs H1 => ∃ as1 H01 c1 ds, Le as H0 as1 H01 ∧ Ok X.K as1 H01 H1 σ c1 ∧ RpA X.K as1 H01 vs ds ∧ ds.length = n ∧ sem ds c1.cs fun d cs' => R d { c1 with cs := cs' } :=
      ⟨as, H0, c, _, ok, q, fun as1 H1 Hn c1 vs ds l1 ok1 r1 ⟨z1, z2⟩ => ⟨as1, H1, c1, ds, l1, ok1, r1, z1, z2⟩⟩
    refine PySem.W.callWith_K (h₀ := X.base) I0.ok.mod.kin hk (thn (ha.run pos pins _ σ H' _ I0 arg) fun us s1 ⟨vs, H1, I1, r, as1, H01, c1, ds, l1, ok1, rd, z1, z2⟩ => ⟨I1.kIn, ?_⟩) he hpl
    exact run_fnD (ws := []) FG hgd hr hb I1 r .nil ok1 rd .nil z1 rfl z2 fun _ _ _ _ _ _ l ok' rp hq => kk _ _ _ _ _ _ (l1.trans l) ok' rp hq
end
end DL

/-! a comprehension whose list may change later; enumerate of a list that may change, but not in the meanwhile -/
namespace DL
open L2 PySem PyProof.Rows
section
variable {X : Cx} {K : PySem.W.Frag} {tg : Expr} {pos : Pos}
/-! ### for .. in enumerate(a list that may change) -/
variable {dr : DA}
end
end DL

/-! repr of a list that may change -/
namespace DL
open L2 PySem PyProof.Rows
end DL

/-! a, b, *rest = a list -/
namespace L2
open PySem PySem.Spec PySem.Calls PyProof.Rows
section
variable {prog : Program} {w : World} {A : Around} {E : Value → Shared → Prop} {s : Shared}
end
section
variable {X : Cx} {pos : Pos}
end
end L2
namespace DL
open L2 PySem PySem.Spec PyProof.Rows
section
variable {X : Cx} {pos : Pos}
end
end DL

/-! zip of a tuple and a list, walked -/
namespace DL
open L2 PySem PySem.Spec PyProof.Rows
section
variable {prog : Program} {w : World} {A : Around} {E : Value → Shared → Prop} {s : Shared}
end
end DL

/-! a tuple of whole numbers, a constant of the module -/
namespace DL
open L2 PySem PyProof.Rows
section
variable {X : Cx} {x : Str} {pos : Pos}
end
end DL

/-! x in t, t a tuple of data of any depth -/
namespace DL
open L2 PySem PyProof.Rows
section
variable {K : PySem.W.Frag}
end
end DL

/-! a list within a list that changes no more -/
namespace DL
open L2 PySem PyProof.Rows
section
variable {K : PySem.W.Frag} {as : AsM} {H : Hp}
end
end DL

/-! (..) * n -/
namespace DL
open L2 PySem PyProof.Rows
section
variable {X : Cx} {K : PySem.W.Frag} {a b : Expr} {da db : DE} {pos : Pos}
def dRepT : DF := fun x y c R => match x, y with
  | .tup xs, .int n => xs ≠ [] ∧ 2 ≤ n ∧ n ≤ 1000 ∧ xs.length ≤ 1000 ∧ R (.tup (List.replicate n.toNat xs).flatten) c
  | _, _ => False
theorem opD_repT : OpD K (rRepT K) dRepT := by
  intro as H0 H σ c v1 v2 d1 d2 R Q ok r1 r2 h k
  unfold dRepT at h
  split at h
  · cases r1 with
    | tup g1 g2 =>
      cases r2
      obtain ⟨h1, h2, h3, h4, h5⟩ := h
      refine ⟨_, _, _, rfl, rfl, seqT_mono ok.c.ex g1, (fun z => h1 (by
        have := g2.length
        rw [z] at this
        exact List.eq_nil_of_length_eq_zero this.symm)), h2, h3, by rw [g2.length]; exact h4, fun p hp => ?_⟩
      obtain ⟨l, ok'⟩ := new_known (o := .tup _) ok hp
      exact k _ _ _ _ _ _ l ok' (rp_tup l (rpa_rep g2 _)) h5
  · exact h.elim
theorem pd_repT (ha : PD X a da) (hb : PD X b db) : PD X (.BinOp a .Mult b pos) (dBin dRepT da db) := pd_bin op_repT opD_repT ha hb
end
end DL

/-! an own class over KeyError: its making (LookupError's new), its own __init__ -/
namespace DL
open L2 PySem PySem.Calls PyProof.Rows
/-- what the tail of such a class's order holds -/
structure KeyB (bm : List Value) : Prop where
  lk : bm.contains (.type "LookupError") = true
  ke : bm.contains (.type "KeyError") = true
  noA : bm.contains (.type "AttributeError") = false
  noN : bm.contains (.type "NameError") = false
section
variable {M : Model} {A : Around} {E : Value → Shared → Prop} {hp : Heap} {gs : Array GenState} {dr : Drawn} {tk : Nat} {os : OsState}
variable {cn qn : Str} {C ns : Addr} {bs bm : List Value} {hd : Bool} {sn : List Str} {sub : List Value} {ab : Bool} {col : Option Bool} {dd : Option Addr} {k0 k1 k2 k3 k5 : Option Value}
theorem key_new_asked (kb : KeyB bm) {us : List Value} {Q : Unit → Shared → Prop}
    (cAt : hp.get? C = some (excClassObj cn qn C ns bs bm hd sn sub ab col dd k0 k1 k2 k3 k5 "LookupError.__new__")) (q : Q () ⟨hp, gs, dr, tk, os⟩) : wpAny M A (checkBuiltinCall "LookupError.__new__" ⟨.ref C :: us, []⟩) Q E ⟨hp, gs, dr, tk, os⟩ := by
  have isL : (Value.ref C :: bm).contains (.type "LookupError") = true := by rw [List.contains_cons, kb.lk, Bool.or_true]
  have LF := PySem.F.excBase_LookupError
  have st := LF.noStar
  simp only [checkBuiltinCall, LF.newKind, LF.newSplit, LF.newRow]
  repeat (first
    | refine wpAny_loadPart_at cAt ?_
    | (refine wpAny_isSubtype_exc cAt ?_; rw [isL])
    | refine wpAny_staticBase_exc cAt ?_
    | refine wpAny_madeBy_exc cAt ?_
    | simp only [bne_self_eq_false, Bool.false_eq_true, if_false]
    | wp_step)
  exact q
end
section
variable {prog : Program} {w : World} {A : Around} {E : Value → Shared → Prop} {R : Result → Shared → Prop} {hp : Heap} {gs : Array GenState} {dr : Drawn} {tk : Nat} {os : OsState}
variable {cn qn : Str} {C ns : Addr} {bs bm : List Value} {hd : Bool} {sn : List Str} {sub : List Value} {ab : Bool} {col : Option Bool} {dd : Option Addr} {k0 k1 k2 k3 k5 : Option Value}
theorem key_new (kb : KeyB bm) {us : List Value} (cAt : hp.get? C = some (excClassObj cn qn C ns bs bm hd sn sub ab col dd k0 k1 k2 k3 k5 "LookupError.__new__"))
    (q : R (.ok (.ret (.ref (hp.objs.size + 1)))) ⟨(hp.push (PySem.W.kdv_tup us)).push (PySem.HandSPX.excO C hp.objs.size), gs, dr, tk, os⟩) (few : us.length ≤ sizeLine) :
    codeAny (model prog w) A (.builtin "LookupError.__new__" ⟨.ref C :: us, []⟩) R ⟨hp, gs, dr, tk, os⟩ := by
  have LF := PySem.F.excBase_LookupError
  have es := LF.ends
  have isL : (Value.ref C :: bm).contains (.type "LookupError") = true := by rw [List.contains_cons, kb.lk, Bool.or_true]
  have noAt : (Value.ref C :: bm).contains (.type "AttributeError") = false := by rw [List.contains_cons, kb.noA]; rfl
  have noNm : (Value.ref C :: bm).contains (.type "NameError") = false := by rw [List.contains_cons, kb.noN]; rfl
  refine codeAny_builtinAt LF.entry ?_
  unfold Builtin.«BaseException.__new__»
  refine PySem.wpAt_bind ?_
  show PySem.wpAt _ _ _ (stack >>= _) _ _ _
  refine PySem.wpAt_bind (PySem.wpAt_stack fun up dn => PySem.wpAt_of_wpAny ?_)
  wp_walk
  refine PySem.wpAt_of_wpAny ?_
  rw [LF.owner]
  repeat (first
    | with_reducible refine wpAny_madeHere_exc LF.canon cAt ?_
    | with_reducible refine wpAny_loadPart_at cAt ?_
    | (with_reducible refine wpAny_isSubtype_exc cAt ?_; first | rw [isL] | rw [noAt] | rw [noNm])
    | wp_step)
  show R _ _
  rw [Heap.size_push]
  exact q
theorem key_type_call (kb : KeyB bm) {us : List Value} {fI : Addr} {Q : PySem.Fin → Shared → Prop} (cAt : hp.get? C = some (excClassObj cn qn C ns bs bm hd sn sub ab col dd k0 k1 k2 k3 k5 "LookupError.__new__"))
    (own : PySem.W.Looks (model prog w) hp (typeLookup (.ref C) "__init__") (some (.ref fI))) (bd : ∀ me, PySem.W.Looks (model prog w) hp (bindSpecial (.ref fI) me) (.ref fI, [me])) (few : us.length ≤ sizeLine)
    (q : codeAny (model prog w) A (.call (.ref fI) ⟨.ref (hp.objs.size + 1) :: us, []⟩)
      (fun r s' => match r with | .ok (.ret v) => v = .none ∧ Q (.done (.ret (.ref (hp.objs.size + 1)))) s' | .ok _ => False | .error e => E e s')
      ⟨(hp.push (PySem.W.kdv_tup us)).push (PySem.HandSPX.excO C hp.objs.size), gs, dr, tk, os⟩) :
    wpAny (model prog w) A (Builtin.«type.__call__» ⟨.ref C :: us, []⟩) Q E ⟨hp, gs, dr, tk, os⟩ := by
  repeat (first
    | with_reducible refine wpAny_loadPart_at cAt ?_
    | with_reducible refine wpAny_madeBy_exc cAt ?_
    | wp_step)
  refine codeAny_call_builtin_code (Code.quiet_builtin _ PySem.F.excBase_LookupError.quiet) (key_new_asked kb cAt ?_)
  refine key_new kb cAt ?_ few
  show wpAny _ _ _ _ _ _
  have stay : ∀ b o, hp.get? b = some o → ((hp.push (PySem.W.kdv_tup us)).push (PySem.HandSPX.excO C hp.objs.size)).get? b = some o := fun b o e => Heap.get?_push_of_some _ (Heap.get?_push_of_some _ e)
  have cAt2 := stay _ _ cAt
  have eAt : ((hp.push (PySem.W.kdv_tup us)).push (PySem.HandSPX.excO C hp.objs.size)).get? (hp.objs.size + 1) = some (PySem.HandSPX.excO C hp.objs.size) := by heap_get
  have isC : (Value.ref C :: bm).contains (.ref C) = true := by simp
  have own2 := own.keeps stay
  have bd2 := (bd (.ref (hp.objs.size + 1))).keeps stay
  unfold isInstance
  repeat (first
    | with_reducible refine wpAny_loadPart_at eAt ?_
    | (with_reducible refine wpAny_isSubtype_exc cAt2 ?_; rw [isC])
    | wp_step)
  show wpAny _ _ (typeLookup (.ref C) _) _ _ _
  refine own2.at ?_
  refine wpAny_holding (wpAny_bind (bd2.at ?_))
  refine wpAny_bind (wpAny_call (codeAny_mono q fun r s' z => ?_))
  rcases r with e | (v | _ | _ | _) <;> first | exact z | exact z.elim | skip
  obtain ⟨rfl, z⟩ := z
  first
    | exact wpAny_pure (wpAny_pure z)
    | (wp_walk; exact z)
theorem key_call (kb : KeyB bm) {us : List Value} {fI : Addr} (cAt : hp.get? C = some (excClassObj cn qn C ns bs bm hd sn sub ab col dd k0 k1 k2 k3 k5 "LookupError.__new__"))
    (own : PySem.W.Looks (model prog w) hp (typeLookup (.ref C) "__init__") (some (.ref fI))) (bd : ∀ me, PySem.W.Looks (model prog w) hp (bindSpecial (.ref fI) me) (.ref fI, [me])) (few : us.length ≤ sizeLine)
    (q : codeAny (model prog w) (A.under (.builtin "type.__call__" ⟨.ref C :: us, []⟩)) (.call (.ref fI) ⟨.ref (hp.objs.size + 1) :: us, []⟩) (PySem.W.InitBack (hp.objs.size + 1) R)
      ⟨(hp.push (PySem.W.kdv_tup us)).push (PySem.HandSPX.excO C hp.objs.size), gs, dr, tk, os⟩) :
    codeAny (model prog w) A (.call (.ref C) ⟨us, []⟩) R ⟨hp, gs, dr, tk, os⟩ := by
  have a1 := PySem.tc_lookup
  have a2 := PySem.tc_bind (.ref C)
  have ty : (⟨hp, gs, dr, tk, os⟩ : Shared).TypeIs (.ref C) "type" := ⟨_, cAt, rfl⟩
  refine codeAny_of_tree ?_
  show wpAny _ _ (callAny (.ref C) _) _ _ _
  repeat (any_goals (first
    | assumption
    | with_reducible refine wpAny_loadPart_at cAt ?_
    | wp_step))
  refine ⟨rfl, ?_⟩
  refine codeAny_call_builtin_at (Code.quiet_builtin _ (by decide +kernel)) PySem.entry_typeCall (wpAny_check_type_call_sub cAt (key_type_call kb cAt own bd few ?_))
  refine codeAny_mono q fun r s' z => ?_
  rcases r with e | (v | _ | _ | _) <;> exact z
theorem key_init_asked (kb : KeyB bm) {e : Addr} {oe : Obj} {us : List Value} {Q : Unit → Shared → Prop}
    (cAt : hp.get? C = some (excClassObj cn qn C ns bs bm hd sn sub ab col dd k0 k1 k2 k3 k5 "LookupError.__new__")) (eAt : hp.get? e = some oe) (hc : oe.cls = .ref C) (q : Q () ⟨hp, gs, dr, tk, os⟩) :
    wpAny (model prog w) A (checkBuiltinCall "KeyError.__init__" ⟨.ref e :: us, []⟩) Q E ⟨hp, gs, dr, tk, os⟩ := by
  have isK : (Value.ref C :: bm).contains (.type "KeyError") = true := by rw [List.contains_cons, kb.ke, Bool.or_true]
  have KF := PyProof.Rows.excClass_KeyError
  have st := KF.notStar
  simp only [checkBuiltinCall, KF.initKind, KF.initSplit, KF.initSig]
  repeat (first
    | (with_reducible refine wpAny_loadPart_at eAt ?_; rw [hc])
    | with_reducible refine wpAny_loadPart_at cAt ?_
    | (with_reducible refine wpAny_isSubtype_exc cAt ?_; rw [isK])
    | wp_step)
  refine wpAny_onRaise ?_
  have z : ∀ (a b : String) (n : Nat), Bind.check ⟨.positional, "*", "KeyError", .self, [⟨"args", .varPos, false⟩]⟩ a b n (List.map (fun x => x.fst) ({ pos := Value.ref e :: us } : Args).kw) = pure () := fun a b n => check_star_args _ _ _ _ _ _
  rw [z]
  exact wpAny_pure q
/-- KeyError.__init__(e, ..): the args are laid anew -/
theorem key_init (kb : KeyB bm) {e t0 : Addr} {us : List Value}
    (cAt : hp.get? C = some (excClassObj cn qn C ns bs bm hd sn sub ab col dd k0 k1 k2 k3 k5 "LookupError.__new__")) (eAt : hp.get? e = some (PySem.HandSPX.excO C t0)) (few : us.length ≤ sizeLine)
    (q : ∀ h' t1, (∀ b o, b ≠ e → hp.get? b = some o → h'.get? b = some o) → h'.get? e = some (PySem.HandSPX.excO C t1) → R (.ok (.ret .none)) ⟨h', gs, dr, tk, os⟩) :
    codeAny (model prog w) A (.call (.builtin "KeyError.__init__") ⟨.ref e :: us, []⟩) R ⟨hp, gs, dr, tk, os⟩ := by
  refine codeAny_call_builtin PyProof.Rows.excClass_KeyError.init.plain PyProof.Rows.excClass_KeyError.initEntry (key_init_asked kb cAt eAt rfl ?_)
  wp_walk
  refine q _ hp.objs.size (fun b o nb bo => ?_) ?_
  · rw [Heap.get?_update_other _ _ (Ne.symm nb)]
    exact Heap.get?_push_of_some _ bo
  · rw [Heap.get?_update_self _ (Heap.get?_push_of_some _ eAt) rfl]
    rfl
end
end DL

/-! an own class over KeyError: its first field -/
namespace DL
open L2 PySem PySem.Calls PyProof.Rows
/-- the order of KeyError -/
abbrev keT : List Value := [.type "KeyError", .type "LookupError", .type "Exception", .type "BaseException", .type "object"]
theorem keT_b : KeyB keT := ⟨by decide +kernel, by decide +kernel, by decide +kernel, by decide +kernel⟩
theorem keT_pass (me : Value) (C : Addr) : refuseLoop me "__setattr__" (.ref C :: keT) = pure () := by
  rw [refuseLoop_ref]
  kernel_rfl
section
open Builtin Builtin.ObjectAttr
variable {prog : Program} {w : World} {A : Around} {R : Result → Shared → Prop} {hp : Heap} {gs : Array GenState} {dr : Drawn} {tc : Nat} {os : OsState}
theorem key_set {K : PySem.W.Frag} {f : Str} {ft : Tok} {v : Value} {e C : Addr} {fv : Array Value} {cd : ClassData}
    (kIn : K.In hp) (eAt : hp.get? e = some { cls := .ref C, data := .fields fv }) (cOf : PySem.W.clsIn K C = some cd) (ord : cd.mro = .ref C :: keT) (dict : cd.hasDict = true) (none_ : PySem.W.findIn K (.ref C) f = some none)
    (q : ∀ h' tc' dx, (∀ b o, b ≠ e → hp.get? b = some o → h'.get? b = some o) → hp.objs.size ≤ dx → dx ≠ e → h'.get? e = some { cls := .ref C, dict := some dx, data := .fields fv } →
      h'.Ns1 dx (fun y => if y = f then some v else none) → R (.ok (.ret .none)) ⟨h', gs, dr, tc', os⟩) :
    codeAny (model prog w) A (.call (.builtin "object.__setattr__") ⟨[.ref e, .str f ft, v], []⟩) R ⟨hp, gs, dr, tc, os⟩ := by
  have J : PySem.W.InstAt hp e { cls := .ref C, data := .fields fv } C none := ⟨eAt, rfl, rfl, trivial⟩
  have OS := PySem.F.store_object
  have full : cd.mro.isEmpty = false := by rw [ord]; rfl
  have isO : cd.mro.contains (.type "object") = true := by
    rw [ord, List.contains_cons]
    have : keT.contains (.type "object") = true := by decide +kernel
    rw [this, Bool.or_true]
  have apart : e ≠ hp.objs.size := Nat.ne_of_lt (Heap.lt_size eAt)
  have kind : PySem.W.Looks (model prog w) hp (isInstance (.ref e) (.type "object")) true :=
    J.type.andThen (PySem.W.looks_mroIn kIn (by unfold PySem.W.mroIn; rw [cOf, Option.bind_some, if_neg (by rw [full]; decide), isO]))
  refine codeAny_call_builtin OS.slot.plain OS.entry (@PySem.W.check_slot (model prog w) _ _ ⟨hp, gs, dr, tc, os⟩ "object.__setattr__" "object" "__setattr__" (.ref e) [.str f ft, v] [] _ OS.kind OS.split kind
    (OS.args (.ref e) (.str f ft) v) ?_)
  have line : PySem.W.Looks (model prog w) hp (mroOf (.ref C)) cd.mro := (PySem.W.looks_clsIn kIn cOf).andThen .now
  have taker : PySem.W.Looks (model prog w) hp (storeTaker? none) none := .now
  have dat : PySem.W.Looks (model prog w) hp (classData C) cd := PySem.W.looks_clsIn kIn cOf
  rw [PySem.W.osa_eq, refuse_eq]
  refine wpAny_bind (wpAny_bind (J.type.at (wpAny_bind (line.at ?_))))
  rw [ord, keT_pass]
  refine wpAny_pure (wpAny_bind (J.type.at (wpAny_bind ((PySem.W.looks_findIn kIn none_).at (wpAny_bind (taker.at ?_))))))
  show wpAny _ _ (storeInOwnDict (.ref e) (.ref C) (.str f ft) f v false) _ _ _
  obtain ⟨nm, bs, mro, ns, qn, hd, sn, sb, ab, col, del⟩ := cd
  dsimp only at dict
  subst dict
  unfold storeInOwnDict ownDictForStores
  repeat (first
    | with_reducible refine PySem.HandSPX.store_in_new ?_ ?_
    | with_reducible refine wpAny_loadPart_at eAt ?_
    | with_reducible refine dat.at ?_
    | wp_step)
  · exact ⟨_, #[], _, (Heap.get?_update_ne _ _ _ _ apart.symm).trans (Heap.get?_push_at rfl rfl), rfl, fun x hx => absurd hx (by simp), fun _ => rfl⟩
  · intro h' tc' one but
    have eAt2 : (hp.push { cls := .type "dict", data := .dict #[] }).get? e = some { cls := .ref C, data := .fields fv } := Heap.get?_push_of_some _ eAt
    refine q h' tc' hp.objs.size (fun b o nb bo => ?_) (Nat.le_refl _) apart.symm ?_ one
    · exact (but.2 b (Nat.ne_of_lt (Heap.lt_size bo))).trans ((Heap.get?_update_ne _ _ _ _ nb).trans (Heap.get?_push_of_some _ bo))
    · exact (but.2 e apart).trans (Heap.get?_update_self _ eAt2 rfl)
end
end DL

/-! raise of an own class over KeyError, with its own __init__ that keeps a field -/
namespace DL
open L2 PySem PySem.Spec PyProof.Rows
/-- what the written part says of such a class -/
structure OexK (K : PySem.W.Frag) (C : Addr) : Prop where
  cls : ∃ cn qn ns bs sn sub ab col dd k0 k1 k2 k3 k5, K.lookup C = some (excClassObj cn qn C ns bs keT true sn sub ab col dd k0 k1 k2 k3 k5 "LookupError.__new__")
  sa : PySem.W.findIn K (.ref C) "__setattr__" = some (some (.builtin "object.__setattr__"))
  exC : PySem.W.subIn K (.ref C) (.type "BaseException") = some true
  tyC : PySem.W.typeIn K (.ref C) = some (.type "type")
  kC : PySem.W.keepIn K (.ref C) = true
section
variable {X : Cx} {pins : List (Addr × Obj)} {σ : L2.St} {H : Hp} {s : Shared} {a C : Addr} {f : Str} {y : V} {u : Value} {Q : Unit → Shared → Prop} {E : Value → Shared → Prop} {A : Around}
/-- the data of the class -/
theorem OexK.dat (T : OexK X.K C) : ∃ cd : ClassData, PySem.W.clsIn X.K C = some cd ∧ cd.mro = .ref C :: keT ∧ cd.hasDict = true := by
  obtain ⟨cn, qn, ns, bs, sn, sub, ab, col, dd, k0, k1, k2, k3, k5, at_⟩ := T.cls
  refine ⟨{ name := cn, bases := bs, mro := .ref C :: keT, ns := ns, qualname := qn, hasDict := true, slotNames := sn, subclasses := sub, abstract := ab, collection := col, hasDel := false }, ?_, rfl, rfl⟩
  unfold PySem.W.clsIn
  rw [at_]
/-- self.f = y, the first one -/
theorem key_ost (T : OexK X.K C) (I : Inv X pins σ H s) (e : H a = some (exo a C none)) (free : PySem.W.findIn X.K (.ref C) f = some none) (ry : RelV y u)
    (q : ∀ dx s', H dx = none → dx ≠ a → Inv X pins σ (upd (upd H dx (exd dx [(f, y)])) a (exo a C (some dx))) s' → Q () s') : wpAny (model X.prog X.w) A (setAttr (.ref a) f u) Q E s := by
  obtain ⟨cd, c1, c2, c3⟩ := T.dat
  obtain ⟨t1, eAt⟩ := exo_at I.hok e
  obtain ⟨hp, gs, dr, tc, os⟩ := s
  refine PySem.W.set_plain I.kIn (ox := { cls := .ref C, dict := none, data := .fields #[.ref t1, .none, .none, .none, .bool false, .none] }) (od := none) ⟨eAt, rfl, rfl, trivial⟩ T.sa ?_
  refine key_set I.kIn eAt c1 c2 c3 free (fun h' tc' dx same new apart at2 one => ?_)
  have dnew : H dx = none := I.hok.fresh new
  have ndx : ∀ {b : Addr} {o : Obj}, hp.get? b = some o → b ≠ dx := fun {b o} z => Nat.ne_of_lt (Nat.lt_of_lt_of_le (Heap.lt_size z) new)
  have nea : ∀ {b : Addr}, H b = none → b ≠ a := fun {b} n z => by
    rw [z, e] at n
    cases n
  have U : Un X.fs [] H (upd (upd H dx (exd dx [(f, y)])) a (exo a C (some dx))) hp h' :=
    ⟨fun b o z n _ _ => same b o (nea n) z, fun b o z n _ _ => ⟨o.slots, same b o (nea n) z⟩, fun b o z n _ => by
        rw [upd_ne (nea n), upd_ne (ndx z)]
        exact n,
      fun b o z _ => by
        by_cases hb : b = a
        · rw [hb]
          exact ⟨_, at2⟩
        · exact ⟨o, same b o hb z⟩,
      fun b xs z => by
        rw [upd_ne (at_ne e z exo_tup), upd_ne (ne_of_none z dnew)]
        exact z,
      fun b o v z => by
        rw [upd_ne (at_ne e z exo_frz), upd_ne (ne_of_none z dnew)]
        exact z,
      fun b ps z => ⟨#[], by
        rw [upd_ne (at_ne e z exo_tbl), upd_ne (ne_of_none z dnew), z]
        simp⟩⟩
  refine q dx _ dnew apart (I.un (t' := tc') U fun b o z => ?_)
  by_cases hb : b = a
  · subst hb
    rw [upd_same] at z
    cases z
    exact exo_ok at2
  · rw [upd_ne hb] at z
    by_cases hd : b = dx
    · subst hd
      rw [upd_same] at z
      cases z
      exact exd_ok one (relO_put (fs := []) ry fun _ => True.intro)
    · rw [upd_ne hd] at z
      refine (I.hok b o z).stay (fun c v hc k => same c v ?_ k) (fun c hc => ?_) (fun c xs hc => ?_)
      · rcases hc with hc | hc
        · rw [hc]; exact hb
        · exact at_ne e hc exo_own
      · rw [upd_ne (at_ne e hc exo_own), upd_ne (ne_of_none hc dnew)]
        exact hc
      · rw [upd_ne (at_ne e hc exo_tup), upd_ne (ne_of_none hc dnew)]
        exact hc
/-- KeyError.__init__(self, ..): nothing of it is told -/
theorem key_oinit {us : List Value} {Q : Value → Shared → Prop} (T : OexK X.K C) (I : Inv X pins σ H s) (e : H a = some (exo a C none)) (few : us.length ≤ sizeLine) (q : ∀ s', Inv X pins σ H s' → Q .none s') :
    wpAny (model X.prog X.w) A (call (.builtin "KeyError.__init__") (.ref a :: us)) Q E s := by
  obtain ⟨cn, qn, ns, bs, sn, sub, ab, col, dd, k0, k1, k2, k3, k5, at_⟩ := T.cls
  obtain ⟨t1, eAt⟩ := exo_at I.hok e
  obtain ⟨hp, gs, dr, tc, os⟩ := s
  refine wpAny_call (key_init keT_b (I.kIn _ _ at_) eAt few fun h' t2 same at2 => ?_)
  have J := I.write (t' := tc) (x := a) (e := a) (o := exo a C none) (by rw [e]; exact True.intro) (.inl rfl) same ⟨_, at2⟩ (exo_ok at2)
  have back : upd H a (exo a C none) = H := by
    funext b
    by_cases hb : b = a
    · rw [hb, upd_same, e]
    · rw [upd_ne hb]
  rw [back] at J
  exact q _ J
end
/-! ### readings and rules -/
/-- KeyError.__init__(self, ..) -/
def tKeI (K : PySem.W.Frag) (ta : TA) : TE := fun σ H Q => ta σ H fun vs H1 => ∃ (a C : Addr) (ws : List V), vs = .ref a :: ws ∧ ws.length ≤ 1000 ∧ OexK K C ∧ H1 a = some (exo a C none) ∧ Q .non H1
/-- self.f = e, the first one -/
def tKst (K : PySem.W.Frag) (f : Str) (to te : TE) : TS := fun D σ H => te σ H fun y H1 => to σ H1 fun x H2 => ∃ a C : Addr, x = .ref a ∧ OexK K C ∧ PySem.W.findIn K (.ref C) f = some none ∧
  H2 a = some (exo a C none) ∧ ∀ dx, H2 dx = none → dx ≠ a → D.nx σ (upd (upd H2 dx (exd dx [(f, y)])) a (exo a C (some dx)))
section
variable {X : Cx} {o e : Expr} {es : List Expr} {to te : TE} {ta : TA} {f : Str} {p p' p1 p2 pos : Pos}
theorem ty_key : typeOf (.type "KeyError") = pure (.type "type") := by kernel_rfl
theorem ps_kst (ho : PE X o to) (he : PE X e te) (hs : swapsWith e (some (.Attribute o f p')) pos.line X.env = pure false := by rfl) : PS X (.Assign [.Attribute o f p'] e pos) (tKst X.K f to te) := by
  refine ⟨fun pins s σ H D I h => ?_⟩
  refine plainObj_wpAny_Assign_Attribute (thn (he.run pins s σ H _ I h) fun v s1 ⟨y, H1, I1, r1, q1⟩ => thn (ho.run pins s1 σ H1 _ I1 q1) fun u s2 ⟨x, H2, I2, r2, a, C, ex, T, free, ea, q⟩ => ?_) hs
  subst ex
  obtain rfl : u = Value.ref a := r2
  exact key_ost T I2 ea free r1 fun dx s' n ne J => ⟨σ, _, J, q dx n ne⟩
/-- C(e, ..), such a class -/
theorem pmk_kex {CX : CXT} {x : Str} {C fI : Addr} {k : Nat} {fd : FuncData} {ps : List Str} {sp : Sp} (T : OexK X.K C) (iC : PySem.W.findIn X.K (.ref C) "__init__" = some (some (.ref fI))) (tI : PySem.W.typeIn X.K (.ref fI) = some (.type "function"))
    (F1 : FnOk X.prog X.w X.K X.mg X.base CX k fI fd ps sp) (hr : Room (k + 1) X.A) (hb : Binds X.K fd ps []) (hx : Passes CX X (fun _ _ _ => False)) (hg : Gl X x) (hm : X.mg x = some (.ref C)) (ha : PA X (e :: es) ta)
    (hdb : (x == ("__debug__" : Str)) = false := by decide) (he : starEach (e :: es) X.env = (false, eval e X.env) :: starEach es X.env := by rfl) (hpl : (backTo pos (starEach es X.env)).any (·.1) = false := by rfl) :
    PMk X (.Call (.Name x p) (e :: es) [] pos) (tMkO C sp [] ta) := by
  intro pins s σ H Q I h
  obtain ⟨cn, qn, ns, bs, sn, sub, ab, col, dd, k0, k1, k2, k3, k5, at_⟩ := T.cls
  refine wpAny_Call_Name_kw (ld_glob I hg hm ?_ hdb)
  refine PySem.W.callWith_K (h₀ := X.base) I.ok.mod.kin T.kC (thn (ha.run pos pins s σ H _ I h) fun us s1 ⟨vs, H1, I1, r1, few, q1⟩ => ⟨I1.kIn, ?_⟩) he hpl
  show wpAny _ _ (call (.ref C) us) _ _ _
  obtain ⟨hp, gs, dr, tc, os⟩ := s1
  have top : hp.objs.size ≤ hp.objs.size + 1 := Nat.le_succ _
  have free : H1 (hp.objs.size + 1) = none := I1.hok.fresh top
  have body := q1 (hp.objs.size + 1) free
  rw [List.append_nil] at body
  have stay : ∀ b o, hp.get? b = some o → ((hp.push (PySem.W.kdv_tup us)).push (PySem.HandSPX.excO C hp.objs.size)).get? b = some o := fun b o z => Heap.get?_push_of_some _ (Heap.get?_push_of_some _ z)
  have eAt : ((hp.push (PySem.W.kdv_tup us)).push (PySem.HandSPX.excO C hp.objs.size)).get? (hp.objs.size + 1) = some (PySem.HandSPX.excO C hp.objs.size) := by heap_get
  have I2 : Inv X pins σ (upd H1 (hp.objs.size + 1) (exo (hp.objs.size + 1) C none)) ⟨(hp.push (PySem.W.kdv_tup us)).push (PySem.HandSPX.excO C hp.objs.size), gs, dr, tc, os⟩ :=
    I1.laid (t' := tc) (a := hp.objs.size + 1) (o := exo (hp.objs.size + 1) C none) (h' := (hp.push (PySem.W.kdv_tup us)).push (PySem.HandSPX.excO C hp.objs.size)) stay top (exo_ok eAt)
  have rr : Vals (V.ref (hp.objs.size + 1) :: vs) (Value.ref (hp.objs.size + 1) :: us) := .cons rfl r1
  have hl : (Value.ref (hp.objs.size + 1) :: us ++ []).length = ps.length := by
    rw [List.append_nil]
    exact (rr.length.symm).trans (F1.len _ _ _ _ body)
  have few2 : us.length ≤ sizeLine := by rw [← Paired.length r1, sizeLine_eq]; omega
  refine wpAny_call (key_call keT_b (I1.kIn _ _ at_) (PySem.W.looks_findIn I1.kIn iC) (fun me => PySem.W.bind_fn I1.kIn me tI) few2
    (codeAny_mono (F1.run _ X.stack _ _ ⟨Value.ref (hp.objs.size + 1) :: us, []⟩ (Value.ref (hp.objs.size + 1) :: us) _ _ (fun _ _ _ => False) (hr.make C us []) (I2.env0.make C us [])
      (by have z := hb _ (Value.ref (hp.objs.size + 1) :: us) I2.kIn hl; rw [List.append_nil] at z; exact z) rr body) fun r s' z => ?_))
  cases r with
  | error er => exact hx pins σ _ _ er s' I2 z
  | ok fl =>
    cases fl with
    | ret u =>
      obtain ⟨v, H2, os2, bare2, un2, hok2, rv, ev, d, fs, ea, ed, hd1, q2⟩ := z
      subst ev
      obtain ⟨h2, g2, d2, t2, os'⟩ := s'
      exact ⟨rv, mk_end (raises_own T.exC T.tyC) I1 top stay un2 hok2 os2 bare2 ea ed hd1 q2⟩
    | next => exact z.elim
    | brk => exact z.elim
    | cont => exact z.elim
end
end DL

/-! raise of such a class, as data -/
namespace DL
open L2 PySem PySem.Spec PyProof.Rows
section
variable {X : Cx} {e : Expr} {es : List Expr} {ta : TA} {p1 p2 pos : Pos}
theorem pe_keinit2 (hg : Gl X "KeyError") (hm : X.mg "KeyError" = none) (at_ : PySem.W.findCls X.K (.type "KeyError") (.type "type") "__init__" = some (.val (.builtin "KeyError.__init__"))) (ha : PA X (e :: es) ta)
    (nb : attributeBase (.Name "KeyError" p1) "__init__" X.env (eval (.Name "KeyError" p1) X.env) = eval (.Name "KeyError" p1) X.env := by rfl)
    (few : ((backTo pos (starEach (e :: es) X.env)).all (fun x => !x.1) && (backToKw pos (keywordEach [] X.env)).all (fun x => x.1.isSome)
      && decide ((e :: es).length + ([] : List Keyword).length + (if ([] : List Keyword).isEmpty then 0 else 1) < 30)) = true := by rfl)
    (hline : (p2.endLine == pos.line) = true := by rfl)
    (he : starEach (e :: es) X.env = (false, eval e X.env) :: starEach es X.env := by rfl) (hpl : (backTo pos (starEach es X.env)).any (·.1) = false := by rfl) :
    PE X (.Call (.Attribute (.Name "KeyError" p1) "__init__" p2) (e :: es) [] pos) (tKeI X.K ta) := by
  refine ⟨fun pins s σ H Q I h => ?_⟩
  rw [arm_eval_Call, nb]
  refine wpAny_bind (ld_blt I hg hm PyProof.Rows.excClass_KeyError.boot ?_ (by decide) (by decide))
  refine wpAny_bind (wpAny_standAt ?_)
  have form : methodCallForm ((e :: es).length + ([] : List Keyword).length) (backTo pos (starEach (e :: es) X.env)) (backToKw pos (keywordEach [] X.env)) = true := few
  have where_ : methodCallPos true (.Name "KeyError" p1) X.env p2 pos = pure pos := by
    unfold methodCallPos
    simp [hline]
  obtain ⟨m, fr⟩ := I.fr
  unfold methodCall
  rw [form]
  refine wpAny_bind (wpAny_holding (PySem.W.method_type fr I.ok.mod.kin ty_key (by decide +kernel) at_ (by decide +kernel) ?_))
  refine wpAny_bind (wpAny_of_eq where_ ?_)
  show wpAny _ _ (callWith pos (Value.builtin "KeyError.__init__") [] (backTo pos (starEach (e :: es) X.env)) []) _ _ _
  refine PyProof.Rows.callWith_method1 (thn (ha.run pos pins _ σ H _ (I.tok _) h) fun us s1 ⟨vs, H1, I1, r1, a, C, ws, ev, few2, T, ea, q⟩ => ?_) he hpl
  subst ev
  cases r1 with
  | @cons _ u0 _ ur ra rest =>
    obtain rfl : u0 = Value.ref a := ra
    exact key_oinit T I1 ea (by rw [← Paired.length rest, sizeLine_eq]; omega) fun s' J => ⟨.non, H1, J, rfl, q⟩
end
section
variable {P : Program} {w : World} {K : PySem.W.Frag} {mg : Str → Option Value} {base : Heap} {qual m f1 : Str} {params : Arguments} {body : List Stmt} {scope : Scope} {f C : Addr} {fd : FuncData} {j : Nat} {p1 p2 p3 p4 p5 p6 p7 p8 p9 p10 : Pos}
theorem initK1 (F : FunD K "__init__" qual params body scope [] [] f fd) (S : FnScope ["self", f1] ["self", f1] scope)
    (hbd : body = [.Expr (.Call (.Attribute (.Name "KeyError" p1) "__init__" p2) [.Name "self" p3, .Constant (.str m) j p4] [] p5) p6, .Assign [.Attribute (.Name "self" p7) f1 p8] (.Name f1 p9) p10])
    (hG : scope.names.lookup ("KeyError" : Str) = some .globalImplicit) (hS : scope.names.lookup ("self" : Str) = some NameKind.local) (h1 : scope.names.lookup f1 = some .local)
    (hd1 : (f1 == ("__debug__" : Str)) = false) (hc1 : (f1 == ("__classdict__" : Str)) = false)
    (hl : (p2.endLine == p5.line) = true) (hm : mg "KeyError" = none) (at_ : PySem.W.findCls K (.type "KeyError") (.type "type") "__init__" = some (.val (.builtin "KeyError.__init__"))) (TO : OexK K C) (n1 : PySem.W.findIn K (.ref C) f1 = some none) :
    FnOk P w K mg base CX0 1 f fd ["self", f1] (spI C [f1]) := by
  obtain ⟨oc, od, dV, kV, doc, pm, an, cdv, ct, osl, rfl, lk, hcd, _, _⟩ := F.ex
  subst hbd
  refine fn_of lk hcd S (fun vs H Q E ⟨a, ys, e, l, _⟩ => by rw [e]; simp [l]) fun A outer s H vs Q E hr ⟨a, ys, ev, l, ha, q⟩ => ?_
  match ys, l with
  | [y], _ =>
  subst ev
  have me : ∀ p, PE (cxOf CX0 P w K mg base ["self", f1] qual scope f cdv A outer s H E) (.Name "self" p) (tVar 0) := fun p => pe_var (i := 0) rfl (.inl hS) (by decide) (by decide)
  refine ⟨_, pss_cons (ps_expr (pe_keinit2 (show Gl _ _ from hG) hm at_ (pa_cons (me _) (pa_cons pe_str pa_nil)) (hline := hl))) (pss_one (ps_kst (me _) (pe_var (i := 1) rfl (.inl h1) hd1 hc1))), ?_⟩
  refine ⟨_, rfl, a, C, [.str m], rfl, by show 1 ≤ 1000; decide, TO, ha, ?_⟩
  refine ⟨_, rfl, _, rfl, a, C, rfl, TO, n1, ha, fun dx hdx hne => ?_⟩
  exact q dx hdx hne
end
/-- what the text's own class C over KeyError, with its own __init__ that keeps the fields fs, must be -/
structure ExK (P : Program) (w : World) (K : PySem.W.Frag) (mg : Str → Option Value) (base : Heap) (x : Str) (C : Addr) (fs : List Str) : Prop where
  T : OexK K C
  g : mg x = some (.ref C)
  ex : ∃ (fI : Addr) (fd : FuncData), PySem.W.findIn K (.ref C) "__init__" = some (some (.ref fI)) ∧ PySem.W.typeIn K (.ref fI) = some (.type "function") ∧ FnOk P w K mg base CX0 1 fI fd ("self" :: fs) (spI C fs) ∧ Binds K fd ("self" :: fs) []
section
variable {X : Cx} {x : Str} {C : Addr} {fs : List Str} {p cp pos : Pos} {e : Expr} {es : List Expr} {da : DA} {n : Nat}
theorem pds_raiseK (hc : X.calm = true) (T : ExK X.prog X.w X.K X.mg X.base x C fs) (hr : Room 2 X.A) (hg : Gl X x) (ha : PDA X (e :: es) da) (hdb : (x == ("__debug__" : Str)) = false := by decide)
    (he : starEach (e :: es) X.env = (false, eval e X.env) :: starEach es X.env := by rfl) (hpl : (backTo cp (starEach es X.env)).any (·.1) = false := by rfl) :
    PDS X (.Raise (some (.Call (.Name x p) (e :: es) [] cp)) none pos) (sRaiseF x fs da) := by
  intro W tk
  obtain ⟨fI, fd, iC, tI, F1, hb⟩ := T.ex
  refine ps_imp (ps_raise hc tk (pmk_kex T.T iC tI F1 hr hb pass0 hg T.g ha hdb he hpl)) fun Dn σ H ⟨as, H0, c, DD, ok, q, k⟩ => ⟨as, H0, c, _, ok, q, fun as1 H1 Hn1 c1 vs ds l1 ok1 r1 ⟨z1, z2, q1⟩ => ?_⟩
  refine ⟨by rw [r1.length]; exact z2, fun a ha1 => ⟨a, vs, by rw [List.append_nil], by rw [r1.length]; exact z1, upd_same, fun dx hdx hne => ⟨rfl, dx, _, upd_same, by rw [upd_ne hne, upd_same], ?_, ?_⟩⟩⟩
  · rw [upd_ne hne] at hdx; exact hdx
  · rw [upd_ne hne] at hdx
    rw [upd_del ha1 hne]
    obtain ⟨l, ok2⟩ := new_known (o := .xd (fs.zip vs).reverse) ok1 hdx
    exact k.xx _ _ _ _ _ _ _ _ (l1.trans l) ok2 (.fs upd_same (paired_rev (paired_zip (r1.mono l)))) T.g q1
end
end DL

/-! dict(list of pairs) -/
namespace DL
open L2 PySem PyProof.Rows
def kD : Key → D | .inl i => .int i | .inr s => .str s
theorem keyD_kD {k : Key} : keyD (kD k) = some k := by cases k <;> rfl
def pairD (p : Key × D) : D := .tup [kD p.1, p.2]
def fDictP : DFn := fun ds c R => ∃ d, ∃ ps : List (Key × D), ds = [d] ∧ listD d = some (ps.map pairD) ∧ R (.dic (mergeD [] ps)) c
section
variable {K : PySem.W.Frag} {X : Cx}
theorem pairs_rp {as : AsM} {H : Hp} : ∀ {ps : List (Key × D)} {us : List V}, RpA K as H us (ps.map pairD) → ∃ (as' : List Addr) (kvs : List (Key × V)), us = as'.map V.ref ∧ RpK K as H kvs ps ∧ Paired (fun p kv => SqT K H p [kV kv.1, kv.2]) as' kvs
  | [], us, h => by cases h; exact ⟨[], [], rfl, .nil, .nil⟩
  | p :: ps, us, h => by
    rw [List.map_cons] at h
    cases h with
    | cons h1 h2 =>
      obtain ⟨as', kvs, e, r, q⟩ := pairs_rp h2
      subst e
      have h1' : Rp K as H _ (.tup [kD p.1, p.2]) := h1
      cases h1' with
      | tup sq r2 =>
        cases r2 with
        | cons a1 a2 =>
          cases a2 with
          | cons b1 b2 =>
            cases b2
            have e1 := key_rp a1 keyD_kD
            subst e1
            exact ⟨_ :: as', (p.1, _) :: kvs, rfl, .cons b1 r, .cons sq q⟩
def rDictP (K : PySem.W.Frag) : List V → Hp → VK → Prop := fun xs H Q => ∃ (a : Addr) (ps : List Addr) (kvs : List (Key × V)), xs = [.ref a] ∧ SqL K H a (ps.map V.ref) ∧ Paired (fun p kv => SqT K H p [kV kv.1, kv.2]) ps kvs ∧
  ∀ p, H p = none → ∀ od, Q (.ref p) (upd H p (.frz od (.dK (mergeK [] kvs))))
theorem sqt_pairs {H H' : Hp} (l : ∀ a o, H a = some o → H' a = some o) : ∀ {as' : List Addr} {kvs : List (Key × V)}, Paired (fun p kv => SqT K H p [kV kv.1, kv.2]) as' kvs → Paired (fun p kv => SqT K H' p [kV kv.1, kv.2]) as' kvs
  | _, _, .nil => .nil
  | _, _, .cons h1 h2 => .cons (seqT_mono l h1) (sqt_pairs l h2)
theorem callD_dictP : CallD K (rDictP K) fDictP := by
  intro as H0 H σ c vs ds R Q ok r ⟨d, ps, e, h1, h2⟩ k
  subst e
  obtain ⟨v, rfl, r1⟩ := rpa1 r
  obtain ⟨a, us, rfl, g1, g2⟩ := listD_rp ok.c.ex r1 h1
  obtain ⟨as', kvs, e, r3, q3⟩ := pairs_rp g2
  subst e
  refine ⟨a, as', kvs, rfl, g1, sqt_pairs ok.c.ex q3, fun p hp od => ?_⟩
  obtain ⟨l, ok2⟩ := new_known (o := .frz od (.dK (mergeK [] kvs))) ok hp
  exact k _ _ _ _ _ _ l ok2 (.dic upd_same ((r3.merge .nil).mono l)) h2
theorem callR_frz {f : Value} {r : List V → Hp → VK → Prop} (h : CallR X f r) : CallR X f (fun xs H Q => r xs H fun v H1 => ∃ d u, v = .ref d ∧ H1 d = some u ∧ Mut (some u) ∧ ∀ od, Q v (upd H1 d (.frz od u))) := by
  intro pins s σ H xs us Q I rv q
  refine thn (h pins s σ H xs us _ I rv q) fun v s1 ⟨x, H1, I1, r1, d, u, ev, hd, mu, q1⟩ => ?_
  obtain ⟨od, I2⟩ := I1.lock hd mu
  exact ⟨x, _, I2, r1, q1 od⟩
theorem cr_dictP (hc : X.calm = true) : CallR X (.type "dict") (rDictP X.K) := by
  intro pins s σ H xs us Q I rv ⟨a, ps, kvs, e, h1, h2, h3⟩
  exact callR_frz (call_dictP hc) pins s σ H xs us Q I rv ⟨a, ps, kvs, e, h1, h2, fun p hp => ⟨p, _, rfl, upd_same, True.intro, fun od => by rw [upd_upd]; exact h3 p hp od⟩⟩
end
end DL

/-! target = f(..), f raising -/
namespace DL
open L2 PySem PyProof.Rows
end DL

/-! list(..) as a list that changes -/
namespace DL
open L2 PySem PyProof.Rows
end DL

/-! where a statement stands within another one -/
namespace DL
open L2 PySem PyProof.Rows
end DL

/-! sorted of a tuple of tuples whose heads are whole numbers, no two alike -/
namespace SrtH
open PySem PySem.Calls PyProof.Rows Srt SrtO
section
variable {pr : Program} {wd : World} {Ar : Around} {sh : Shared}
end
end SrtH
namespace DL
open L2 PySem PySem.Spec PyProof.Rows
/-- each item a tuple with such a head -/
inductive HdA (K : PySem.W.Frag) (H : Hp) : List V → List Int → Prop
  | nil : HdA K H [] []
  | cons {t : Addr} {m : Int} {rs vs : List V} {ms : List Int} : SqT K H t (.int m :: rs) → HdA K H vs ms → HdA K H (.ref t :: vs) (m :: ms)
section
variable {X : Cx} {K : PySem.W.Frag}
theorem HdA.len {H : Hp} {vs : List V} {ms : List Int} (h : HdA K H vs ms) : vs.length = ms.length := by
  induction h with
  | nil => rfl
  | cons _ _ ih => rw [List.length_cons, List.length_cons, ih]
end
end DL

/-! things of a class of the program's own, their fields -/
namespace DL
open L2 PySem PySem.Spec PyProof.Rows
section
variable {X : Cx} {K : PySem.W.Frag}
/-! x.f = e -/
end
end DL

/-! methods of a class of the program's own -/
namespace DL
open L2 PySem PySem.Spec PyProof.Rows
section
variable {X : Cx} {k N : Nat} {f : Addr} {fd : FuncData} {ps : List Str} {sem : Sem} {gD : List D → List D → List D} {n m : Str} {p pos apos : Pos} {o e : Expr} {es : List Expr} {da : DE} {dr : DA}
end
end DL

/-! a thing of a class of the program's own is made -/
namespace DL
open L2 PySem PySem.Spec PyProof.Rows
section
variable {X : Cx} {k N : Nat} {f C : Addr} {fd : FuncData} {ps : List Str} {sem : Sem} {gD : List D → List D → List D} {n x : Str} {p pos : Pos} {e : Expr} {es : List Expr} {dr : DA}
end
end DL

/-! x.f += e; methods that raise -/
namespace DL
open L2 PySem PySem.Spec PyProof.Rows
section
variable {X : Cx} {K : PySem.W.Frag}
end
section
variable {X : Cx} {k N : Nat} {f C : Addr} {fd : FuncData} {ps : List Str} {sem : SemX} {gD : List D → List D → List D} {n m x : Str} {p pos apos : Pos} {o e : Expr} {es : List Expr} {da : DE} {dr : DA}
end
end DL

/-! a thing is made, its __init__ may raise -/
namespace DL
open L2 PySem PySem.Spec PyProof.Rows
section
variable {X : Cx} {k N : Nat} {f C : Addr} {fd : FuncData} {ps : List Str} {sem : SemX} {gD : List D → List D → List D} {n x : Str} {p pos : Pos} {e : Expr} {es : List Expr} {dr : DA}
end
end DL

/-! loops and comprehensions over a thing that may change later, but not in the meanwhile; pop -/
namespace DL
open L2 PySem PySem.Spec PyProof.Rows
section
variable {X : Cx} {K : PySem.W.Frag} {tg e : Expr} {da : DE} {pos : Pos}
/-! comprehensions -/
/-! pop of a list's last thing -/
variable {o : Expr} {do_ : DE} {apos cpos : Pos}
end
end DL

/-! repr of large things: how long the text is, told finer -/
namespace DL
open L2 PySem PySem.Spec PyProof.Rows
end DL

/-! an own exception made, not raised: a cell that holds it -/
namespace DL
open L2 PySem PySem.Spec PyProof.Rows
section
variable {X : Cx} {x m : Str} {C : Addr} {fs : List Str} {j n : Nat} {p p2 cp : Pos} {e : Expr} {es : List Expr} {da : DA}
end
end DL

/-! an own class over LookupError: its making (LookupError's new), its own __init__ -/
namespace DL
open L2 PySem PySem.Calls PyProof.Rows
section
variable {M : Model} {A : Around} {E : Value → Shared → Prop} {hp : Heap} {gs : Array GenState} {dr : Drawn} {tk : Nat} {os : OsState}
variable {cn qn : Str} {C ns : Addr} {bs bm : List Value} {hd : Bool} {sn : List Str} {sub : List Value} {ab : Bool} {col : Option Bool} {dd : Option Addr} {k0 k1 k2 k3 k5 : Option Value}
end
section
variable {prog : Program} {w : World} {A : Around} {E : Value → Shared → Prop} {R : Result → Shared → Prop} {hp : Heap} {gs : Array GenState} {dr : Drawn} {tk : Nat} {os : OsState}
variable {cn qn : Str} {C ns : Addr} {bs bm : List Value} {hd : Bool} {sn : List Str} {sub : List Value} {ab : Bool} {col : Option Bool} {dd : Option Addr} {k0 k1 k2 k3 k5 : Option Value}
end
end DL
/-! an own class over LookupError: its first field -/
namespace DL
open L2 PySem PySem.Calls PyProof.Rows
/-- the order of LookupError -/
abbrev luT : List Value := [.type "LookupError", .type "Exception", .type "BaseException", .type "object"]
section
open Builtin Builtin.ObjectAttr
variable {prog : Program} {w : World} {A : Around} {R : Result → Shared → Prop} {hp : Heap} {gs : Array GenState} {dr : Drawn} {tc : Nat} {os : OsState}
end
end DL
/-! raise of an own class over LookupError, with its own __init__ that keeps a field -/
namespace DL
open L2 PySem PySem.Spec PyProof.Rows
/-- what the written part says of such a class -/
structure OexL (K : PySem.W.Frag) (C : Addr) : Prop where
  cls : ∃ cn qn ns bs sn sub ab col dd k0 k1 k2 k3 k5, K.lookup C = some (excClassObj cn qn C ns bs luT true sn sub ab col dd k0 k1 k2 k3 k5 "LookupError.__new__")
  sa : PySem.W.findIn K (.ref C) "__setattr__" = some (some (.builtin "object.__setattr__"))
  exC : PySem.W.subIn K (.ref C) (.type "BaseException") = some true
  tyC : PySem.W.typeIn K (.ref C) = some (.type "type")
  kC : PySem.W.keepIn K (.ref C) = true
section
variable {X : Cx} {pins : List (Addr × Obj)} {σ : L2.St} {H : Hp} {s : Shared} {a C : Addr} {f : Str} {y : V} {u : Value} {Q : Unit → Shared → Prop} {E : Value → Shared → Prop} {A : Around}
/-- the data of the class -/
theorem OexL.dat (T : OexL X.K C) : ∃ cd : ClassData, PySem.W.clsIn X.K C = some cd ∧ cd.mro = .ref C :: luT ∧ cd.hasDict = true := by
  obtain ⟨cn, qn, ns, bs, sn, sub, ab, col, dd, k0, k1, k2, k3, k5, at_⟩ := T.cls
  refine ⟨{ name := cn, bases := bs, mro := .ref C :: luT, ns := ns, qualname := qn, hasDict := true, slotNames := sn, subclasses := sub, abstract := ab, collection := col, hasDel := false }, ?_, rfl, rfl⟩
  unfold PySem.W.clsIn
  rw [at_]
end
/-! ### readings and rules -/
section
variable {X : Cx} {o e : Expr} {es : List Expr} {to te : TE} {ta : TA} {f : Str} {p p' p1 p2 pos : Pos}
end
end DL
/-! raise of such a class, as data -/
namespace DL
open L2 PySem PySem.Spec PyProof.Rows
section
variable {X : Cx} {e : Expr} {es : List Expr} {ta : TA} {p1 p2 pos : Pos}
end
section
variable {P : Program} {w : World} {K : PySem.W.Frag} {mg : Str → Option Value} {base : Heap} {qual m f1 : Str} {params : Arguments} {body : List Stmt} {scope : Scope} {f C : Addr} {fd : FuncData} {j : Nat} {p1 p2 p3 p4 p5 p6 p7 p8 p9 p10 : Pos}
end
section
variable {X : Cx} {x : Str} {C : Addr} {fs : List Str} {p cp pos : Pos} {e : Expr} {es : List Expr} {da : DA} {n : Nat}
end
end DL
namespace DL
open L2 PySem PySem.Spec PyProof.Rows
end DL

/-! repr of data in which dicts stand, with entries -/
namespace DL
open L2 PySem PySem.Spec PyProof.Rows
section
variable {K : PySem.W.Frag} {as : AsM} {H0 H : Hp}
end
section
variable {X : Cx} {pins : List (Addr × Obj)} {σ : L2.St} {H : Hp} {s : Shared}
end
end DL
namespace DL
open L2 PySem PyProof.Rows
end DL

/-! for k in a plain dict, in its items -/
namespace DL
open L2 PySem PySem.Spec PyProof.Rows
section
variable {K : PySem.W.Frag}
end
section
variable {X : Cx} {e tg : Expr} {da : DE}
end
end DL

/-! isinstance(x, (list, tuple)); dict(d) -/
namespace DL
open L2 PySem PySem.Spec PyProof.Rows
section
variable {X : Cx} {K : PySem.W.Frag} {p pos tpos : Pos} {tk : Nat} {e : Expr} {es : List Expr} {da : DE} {ns : List String}
end
end DL

/-! C(.., x=..) that may raise; a raising value into a field; a field as a target -/
namespace DL
open L2 PySem PySem.Spec PyProof.Rows
section
variable {X : Cx} {k N : Nat} {f C : Addr} {fd : FuncData} {ps ks : List Str} {sem : SemX} {gD : List D → List D → List D} {n x : Str} {p pos : Pos} {e : Expr} {es : List Expr} {kws : List Keyword} {dr dk : DA}
end
/-! x.f = a raising call -/
end DL

/-! a field as a target; keywords in an order of their own; a walk over a list or a tuple; a dict within a dict that changes no more -/
namespace DL
open L2 PySem PySem.Spec PyProof.Rows
section
variable {X : Cx} {o tg e : Expr} {da : DE} {to : TE} {n f : Str} {pos : Pos}
/-! a list or a tuple -/
end
/-! keywords in an order of their own -/
section
variable {K : PySem.W.Frag} {f : Addr} {fd : FuncData} {ps ks : List Str} {x qual : Str} {params : Arguments} {body : List Stmt} {scope : Scope} {kws : List (Str × V)}
end
/-! a dict within a dict that changes no more -/
section
variable {K : PySem.W.Frag} {as : AsM} {H : Hp}
end
end DL

/-! list(..) of a list that changes -/
namespace DL
open L2 PySem PySem.Spec PyProof.Rows
end DL

/-! a dict of one key, a truth: made, asked for its class, walked -/
namespace DL
open L2 PySem PySem.Spec PyProof.Rows
/-! isinstance -/
/-! the walk -/
/-! {True: e} -/
/-! a dict compared with {} -/
end DL

/-! (..) * 1: the tuple itself -/
namespace DL
open L2 PySem PySem.Spec PyProof.Rows
end DL

/-! an own class over Exception: its making (Exception's new), its own __init__ -/
namespace DL
open L2 PySem PySem.Calls PyProof.Rows
section
variable {M : Model} {A : Around} {E : Value → Shared → Prop} {hp : Heap} {gs : Array GenState} {dr : Drawn} {tk : Nat} {os : OsState}
variable {cn qn : Str} {C ns : Addr} {bs bm : List Value} {hd : Bool} {sn : List Str} {sub : List Value} {ab : Bool} {col : Option Bool} {dd : Option Addr} {k0 k1 k2 k3 k5 : Option Value}
end
section
variable {prog : Program} {w : World} {A : Around} {E : Value → Shared → Prop} {R : Result → Shared → Prop} {hp : Heap} {gs : Array GenState} {dr : Drawn} {tk : Nat} {os : OsState}
variable {cn qn : Str} {C ns : Addr} {bs bm : List Value} {hd : Bool} {sn : List Str} {sub : List Value} {ab : Bool} {col : Option Bool} {dd : Option Addr} {k0 k1 k2 k3 k5 : Option Value}
end
end DL
/-! an own class over Exception: its first field -/
namespace DL
open L2 PySem PySem.Calls PyProof.Rows
/-- the order of Exception -/
abbrev xcT : List Value := [.type "Exception", .type "BaseException", .type "object"]
section
open Builtin Builtin.ObjectAttr
variable {prog : Program} {w : World} {A : Around} {R : Result → Shared → Prop} {hp : Heap} {gs : Array GenState} {dr : Drawn} {tc : Nat} {os : OsState}
end
end DL
/-! raise of an own class over Exception, with its own __init__ that keeps a field -/
namespace DL
open L2 PySem PySem.Spec PyProof.Rows
/-- what the written part says of such a class -/
structure OexP (K : PySem.W.Frag) (C : Addr) : Prop where
  cls : ∃ cn qn ns bs sn sub ab col dd k0 k1 k2 k3 k5, K.lookup C = some (excClassObj cn qn C ns bs xcT true sn sub ab col dd k0 k1 k2 k3 k5 "Exception.__new__")
  sa : PySem.W.findIn K (.ref C) "__setattr__" = some (some (.builtin "object.__setattr__"))
  exC : PySem.W.subIn K (.ref C) (.type "BaseException") = some true
  tyC : PySem.W.typeIn K (.ref C) = some (.type "type")
  kC : PySem.W.keepIn K (.ref C) = true
section
variable {X : Cx} {pins : List (Addr × Obj)} {σ : L2.St} {H : Hp} {s : Shared} {a C : Addr} {f : Str} {y : V} {u : Value} {Q : Unit → Shared → Prop} {E : Value → Shared → Prop} {A : Around}
/-- the data of the class -/
theorem OexP.dat (T : OexP X.K C) : ∃ cd : ClassData, PySem.W.clsIn X.K C = some cd ∧ cd.mro = .ref C :: xcT ∧ cd.hasDict = true := by
  obtain ⟨cn, qn, ns, bs, sn, sub, ab, col, dd, k0, k1, k2, k3, k5, at_⟩ := T.cls
  refine ⟨{ name := cn, bases := bs, mro := .ref C :: xcT, ns := ns, qualname := qn, hasDict := true, slotNames := sn, subclasses := sub, abstract := ab, collection := col, hasDel := false }, ?_, rfl, rfl⟩
  unfold PySem.W.clsIn
  rw [at_]
end
/-! ### readings and rules -/
section
variable {X : Cx} {o e : Expr} {es : List Expr} {to te : TE} {ta : TA} {f : Str} {p p' p1 p2 pos : Pos}
end
end DL
/-! raise of such a class, as data -/
namespace DL
open L2 PySem PySem.Spec PyProof.Rows
section
variable {X : Cx} {e : Expr} {es : List Expr} {ta : TA} {p1 p2 pos : Pos}
end
section
variable {P : Program} {w : World} {K : PySem.W.Frag} {mg : Str → Option Value} {base : Heap} {qual m f1 x1 : Str} {params : Arguments} {body : List Stmt} {scope : Scope} {f C : Addr} {fd : FuncData} {j : Nat} {p1 p2 p3 p4 p5 p6 p7 p8 p9 p10 : Pos}
end
section
variable {X : Cx} {x : Str} {C : Addr} {fs : List Str} {p cp pos : Pos} {e : Expr} {es : List Expr} {da : DA} {n : Nat}
end
end DL
namespace DL
open L2 PySem PySem.Spec PyProof.Rows
end DL

/-! raise C(..) from None within an except suite (C over Exception, its own __init__); exceptions without a context -/
namespace DL
open L2 PySem PySem.Spec PyProof.Rows
section
variable {X : Cx} {e : Expr} {es : List Expr} {ta : TA} {p pos : Pos}
end
section
variable {P : Program} {w : World} {K : PySem.W.Frag} {mg : Str → Option Value} {base : Heap} {qual m f1 x1 : Str} {params : Arguments} {body : List Stmt} {scope : Scope} {f C : Addr} {fd : FuncData} {j : Nat} {p1 p2 p3 p4 p5 p6 p7 p8 p9 p10 : Pos}
end
section
variable {X : Cx} {x : Str} {C : Addr} {fs : List Str} {p cp cpos pos : Pos} {e : Expr} {es : List Expr} {da : DA} {j : Nat}
end
/-! ### statements whose exceptions have no context -/
section
variable {X : Cx} {st : Stmt} {rest : List Stmt} {s1 s2 : DS} {e tg : Expr} {pos : Pos} {dex : DEX} {g : DG}
end
end DL

/-! try: .. except X: raise Y(..) from None; defs whose exceptions have no context -/
namespace DL
open L2 PySem PySem.Spec PyProof.Rows
section
variable {X : Cx} {e : Expr} {es : List Expr} {ta : TA} {p pos : Pos}
end
section
variable {X : Cx} {x : Str} {C : Addr} {fs : List Str} {p cp pos : Pos} {e : Expr} {es : List Expr} {da : DA} {n : Nat}
end
/-! ### a def by its body -/
section
variable {P : Program} {w : World} {K : PySem.W.Frag} {mg : Str → Option Value} {base : Heap}
end
/-! ### a call of such a def -/
section
variable {X : Cx} {k n : Nat} {f : Addr} {fd : FuncData} {ps ks : List Str} {sem : SemX} {gD : List D → List D → List D} {x : Str} {p pos : Pos} {e : Expr} {es : List Expr} {da : DA}
end
/-! ### the try -/
section
variable {X : Cx} {x : Str} {c : Value} {body suite : List Stmt} {b₀ : Stmt} {np pos pos' : Pos} {sb su : DS} {sub : Str → Option Bool}
end
end DL

/-! calls that raise, within expressions -/
namespace DL
open L2 PySem PySem.Spec PyProof.Rows
abbrev DAX := (DX → Z → Prop) → DA
abbrev DTX := (DX → Z → Prop) → DT
section
variable {X : Cx} {a b c e : Expr} {es : List Expr} {de da db : DE} {dex : DEX} {dax : DAX} {dtx : DTX} {pos : Pos} {s1 s2 : DS}
end
section
variable {X : Cx} {k N : Nat} {f C : Addr} {fd : FuncData} {ps : List Str} {sem : SemX} {gD : List D → List D → List D} {n m x : Str} {p pos apos : Pos} {o e : Expr} {es : List Expr} {da : DE} {dr : DAX}
end
end DL

/-! dicts that change: pop, a copy; d.get(key, x) of a plain one; slices of a list that changes -/
namespace DL
open L2 PySem PySem.Spec PyProof.Rows
section
variable {X : Cx} {K : PySem.W.Frag}
variable {o e f : Expr} {do_ di dj : DE} {apos cpos : Pos}
/-! ### slices of what may change -/
end
end DL

/-! xs[:m] = ys -/
namespace DL
open L2 PySem PySem.Spec PyProof.Rows
section
variable {prog : Program} {w : World} {A : Around} {E : Value → Shared → Prop} {s : Shared}
end
section
variable {X : Cx} {o : Expr} {lo hi : Option Expr} {p2 pos : Pos} {to : TE} {tl th : TO} {do_ : DE} {dl dh : DO}
/-! by data -/
end
end DL

/-! list(enumerate(xs)), xs a list that changes -/
namespace DL
open L2 PySem PyProof.Rows
/-- enumerate(l) behind i draws; S: the list that takes the pairs -/
structure Est (h : Heap) (e it l S : Addr) (ys : Array Value) (i : Nat) : Prop where
  w : h.IsListIter it l i
  t : h.IsList l ys
  eo : IsEnum h e it (i : Int) .none ∨ ∃ T f oT old, IsEnumHeld h e it (i : Int) old T f ∧ h.get? T = some oT ∧ T ≠ e ∧ T ≠ it ∧ T ≠ S
structure Eap (e it l S : Addr) : Prop where
  ei : e ≠ it
  le : l ≠ e
  li : l ≠ it
  eS : e < S
  iS : it < S
  lS : l < S
section
variable {pr : Program} {wd : World} {Ar : Around} {Er : Value → Shared → Prop} {st : Shared} {e it l S : Addr} {i : Nat} {ys : Array Value} {y : Value}
theorem Est.keep {h h' : Heap} (q : Est h e it l S ys i) (D : Eap e it l S) (k : ∀ b o, b ≠ S → h.get? b = some o → h'.get? b = some o) : Est h' e it l S ys i := by
  refine ⟨q.w.at fun o => k _ o (Nat.ne_of_lt D.iS), q.t.at fun o => k _ o (Nat.ne_of_lt D.lS), ?_⟩
  rcases q.eo with z | ⟨T, f, oT, old, z, g, r1, r2, r3⟩
  · exact .inl (k _ _ (Nat.ne_of_lt D.eS) z)
  · exact .inr ⟨T, f, oT, old, k _ _ (Nat.ne_of_lt D.eS) z, k _ _ r3 g, r1, r2, r3⟩
theorem Est.type {s : Shared} (q : Est s.heap e it l S ys i) : s.TypeIs (.ref e) "enumerate" := by
  rcases q.eo with z | ⟨T, f, oT, old, z, _⟩
  · exact ⟨_, z, rfl⟩
  · exact ⟨_, z, rfl⟩
/-- the pairs that stand -/
structure Egot (ys : Array Value) (S : Addr) (h : Heap) (as : List Addr) : Prop where
  rise : as.Pairwise (· < ·)
  above : ∀ a ∈ as, S < a
  pairs : ∀ (j : Nat) (a : Addr), as[j]? = some a → ∃ t y, ys[j]? = some y ∧ IsPair h a (.int (j : Int) t) y
theorem Egot.there {h : Heap} {as : List Addr} (g : Egot ys S h as) {a : Addr} (ha : a ∈ as) : a < h.objs.size := by
  obtain ⟨j, hj⟩ := List.mem_iff_getElem?.mp ha
  obtain ⟨_, _, _, z⟩ := g.pairs j a hj
  exact Heap.lt_size z
end
/-! #### what is tracked then -/
section
variable {X : Cx} {pins : List (Addr × Obj)} {σ : L2.St} {H : Hp} {s : Shared}
end
end DL

/-! the same data in two objects: dicts, tuples that hold dicts -/
namespace DL
open L2 PySem PySem.Spec PyProof.Rows PySem.W
section
variable {X : Cx} {pins : List (Addr × Obj)} {σ : L2.St} {H H0 : Hp} {s : Shared} {as : AsM} {n : Nat}
end
section
variable {prog : Program} {w : World} {A : Around} {E : Value → Shared → Prop} {s : Shared}
end
section
variable {X : Cx} {K : PySem.W.Frag}
end
end DL

/-! a constant tuple of numbers and texts -/
namespace DL
open L2 PySem PySem.Spec PyProof.Rows
section
variable {X : Cx} {x : Str} {pos : Pos}
end
end DL

/-! enumerate(t, start=k), t a tuple -/
namespace DL
open L2 PySem PyProof.Rows
section
variable {M : Model} {A : Around} {Er : Value → Shared → Prop} {s : Shared} {env : Env}
end
section
variable {X : Cx} {dr dk : DA}
end
end DL

/-! [..] * n, a list that will change -/
namespace DL
open L2 PySem PySem.Spec PyProof.Rows
section
variable {X : Cx} {K : PySem.W.Frag} {a b : Expr} {da db : DE} {pos : Pos}
end
end DL

/-! a call that may raise, where it does not -/
namespace DL
open L2 PySem PySem.Spec PyProof.Rows
end DL

/-! list(d.values()), d a plain dict -/
namespace DL
open L2 PySem PySem.Spec PyProof.Rows
section
variable {X : Cx} {e : Expr} {te : TE} {p apos cpos pos : Pos}
end
end DL

/-! sorted(d), d a dict of few int keys; a changing list + a list, taken as a list -/
namespace DL
open L2 PySem PySem.Spec PyProof.Rows
end DL

/-! a changing dict within a changing dict changes no more, if there is one -/
namespace DL
open L2 PySem PySem.Spec PyProof.Rows
end DL

/-! for x, y in zip(a, b), a a tuple, b a list -/
namespace DL
open L2 PySem PySem.Spec PyProof.Rows
end DL

/-! a lambda with one parameter that captures names, handed to a def as its last argument -/
namespace DL
open L2 PySem PyProof.Rows LamX NdefX

abbrev LF.nf (F : LF) : NF := ⟨"<lambda>", F.qual, F.params, [], F.scope, F.cl, F.c⟩
section
variable {X : Cx} {pins : List (Addr × Obj)} {σ : L2.St} {H : Hp} {s : Shared}
theorem inv_lam {F : LF} {o : Obj} {t' : Nat} {pm ctv : Value} (I : Inv X pins σ H s) (ho : o = PySem.W.kla_obj "<lambda>" F.qual F.params F.body F.scope F.cl pm F.c ctv) :
    Inv X pins σ (upd H s.heap.objs.size (LamO s.heap.objs.size F)) { s with heap := s.heap.push o, toks := t' } := by
  subst ho
  refine I.laid (a := s.heap.objs.size) (fun b u e => Heap.get?_push_of_some _ e) (Nat.le_refl _) ?_
  have e : (s.heap.push (PySem.W.kla_obj "<lambda>" F.qual F.params F.body F.scope F.cl pm F.c ctv)).get? s.heap.objs.size = some (PySem.W.kla_obj "<lambda>" F.qual F.params F.body F.scope F.cl pm F.c ctv) := Heap.get?_push_size _ rfl
  exact ⟨⟨pm, ctv, e⟩, ⟨_, e⟩, fun h1 h2 ⟨p, t, z⟩ st => ⟨p, t, st _ z⟩⟩
theorem lamO_at {P : Program} {w : World} {h : Heap} {f : Addr} {F : LF} (hok : HOk P w H h) (e : H f = some (LamO f F)) : ∃ (pm ctv : Value), h.get? f = some (PySem.W.kla_obj "<lambda>" F.qual F.params F.body F.scope F.cl pm F.c ctv) := by
  obtain ⟨z, _, _⟩ := hok f _ e
  exact z
/-- the lambda is made: its code object is new, or found in the table -/
theorem lam_make3 {c P : Addr} {ps : Array Value} {params : Arguments} {body : Expr} {scope : Scope} {pos : Pos} {E : Value → Shared → Prop} {Q : Value → Shared → Prop} (I : Inv X pins σ H s) (TB : TabB X.base X.mg c P) (hcode : X.env.code = .ref c)
    (hP : H P = some (.tbl ps)) (ht : TriplesOk ps.toList) (ha : ∀ (pos : Pos) (cv : Value), codeAmong pos ps.toList = some cv → ∃ c, cv = .ref c ∧ H c = some (CodeO c (X.env.qual ++ "<lambda>")))
    (hdef : defaultsOf params X.env = ([], [])) (hfree : ∀ y ∈ scope.names, y.2 = .free → ∃ c, X.env.cells.lookup y.1 = some c)
    (hit : ∀ (f c' : Addr) (s' : Shared), codeAmong pos ps.toList = some (.ref c') → H f = none → Inv X pins σ (upd H f (LamO f ⟨X.env.qual ++ "<lambda>", params, body, scope, cloFrom X.env.cells scope.names [], c'⟩)) s' → Q (.ref f) s')
    (miss : ∀ (f c' : Addr) (ps' : Array Value) (s' : Shared), TriplesOk ps'.toList → H c' = none → c' ≠ P → (∀ (pos : Pos) (cv : Value), codeAmong pos ps'.toList = some cv → codeAmong pos ps.toList = some cv ∨ cv = .ref c') → f ≠ c' → f ≠ P → H f = none →
      Inv X pins σ (upd (upd (upd H P (.tbl ps')) c' (CodeO c' (X.env.qual ++ "<lambda>"))) f (LamO f ⟨X.env.qual ++ "<lambda>", params, body, scope, cloFrom X.env.cells scope.names [], c'⟩)) s' → Q (.ref f) s') :
    wpAny (model X.prog X.w) X.A (eval (.Lambda params body scope pos) X.env) Q E s := by
  refine PySem.W.kla_eval hdef ?_
  have bP : s.heap.BuiltinsAt X.mg P := TB.bm.keeps I.bk
  have hP' : s.heap.get? P = some { cls := .none, data := .fields ps } := I.hok P _ hP
  cases hc : codeAmong pos ps.toList with
  | none =>
    refine PySem.W.kla_makeFunction (mg := X.mg) (c := c) (P := P) (ps := ps) (closure_ok hfree) I.ok.glob (I.mod.glob.keeps I.bk) hcode (TB.code.keeps I.bk) hP' ht hc TB.gP bP fun c' ctv h' tk hx hge hlt hrec htb => ?_
    obtain ⟨c2, oc, vs, t, e2, hoc, hd, hv⟩ := hrec
    cases e2
    have nC : H c' = none := I.hok.fresh hge
    have I1 := inv_table (t' := tk) (more := #[rawInt pos.line, rawInt pos.col, .ref c']) (h' := h') I hP (fun b o hb e => hx b o hb e) htb hge ⟨oc, vs, t, hoc, hd, hv⟩
    have eL : (ps ++ #[rawInt pos.line, rawInt pos.col, .ref c']).toList = ps.toList ++ [rawInt pos.line, rawInt pos.col, .ref c'] := by simp
    have hsz : s.heap.objs.size ≤ h'.objs.size := Nat.le_trans hge (Nat.le_of_lt hlt)
    have I2 := inv_lam (F := ⟨X.env.qual ++ "<lambda>", params, body, scope, cloFrom X.env.cells scope.names [], c'⟩) (t' := tk) (pm := (X.mg "__name__").getD .none) (ctv := ctv) I1 rfl
    refine miss h'.objs.size c' _ _ (by rw [eL]; exact PySem.TriplesOk_snoc _ _ _ _ ht) nC (ne_of_none hP nC).symm (fun p' cv hcv => ?_) (Nat.ne_of_gt hlt) (Nat.ne_of_gt (Nat.lt_of_lt_of_le (Heap.lt_size hP') hsz)) (I.hok.fresh hsz) I2
    rw [eL] at hcv
    exact among_app _ ht hcv
  | some cv =>
    obtain ⟨c', e, hco⟩ := ha pos cv hc
    subst e
    refine PySem.W.kla_makeFunctionHit (mg := X.mg) (c := c) (P := P) (ps := ps) (closure_ok hfree) I.ok.glob (I.mod.glob.keeps I.bk) hcode (TB.code.keeps I.bk) hP' ht hc bP fun ctv h' tk hx hsz => ?_
    have I1 : Inv X pins σ H { s with heap := h', toks := tk } := I.kept hx
    have nF : H h'.objs.size = none := I1.hok.fresh (Nat.le_refl _)
    have I2 := inv_lam (F := ⟨X.env.qual ++ "<lambda>", params, body, scope, cloFrom X.env.cells scope.names [], c'⟩) (t' := tk) (pm := (X.mg "__name__").getD .none) (ctv := ctv) I1 rfl
    exact hit h'.objs.size c' _ hc nF I2
end
/-- cells that the running frame's callers have hold what they held -/
theorem cells_lat {X : Cx} {pins : List (Addr × Obj)} {σ : L2.St} {H : Hp} {s : Shared} {cl : List (Str × Addr)} {fr : List Str} {ws : List (Option V)} (C : CellsAt cl fr ws X.s_0.heap X.H_0) (hx : X.ex = []) (I : Inv X pins σ H s) : CellsAt cl fr ws s.heap H := by
  have nx : ∀ b, b ∉ X.ex := fun b z => by rw [hx] at z; cases z
  have kp : ∀ y c, cl.lookup y = some c → ∀ v, X.s_0.heap.IsCell c v → s.heap.IsCell c v := fun y c e v ⟨o, ho, hd⟩ => by
    obtain ⟨sl, q⟩ := I.base.any ho (C.all y c e).1 (nx c)
    exact ⟨_, q, hd⟩
  refine ⟨C.len, fun y c e => ?_, C.inj, fun i y e => ?_⟩
  · obtain ⟨n, v, z⟩ := C.all y c e
    refine ⟨?_, v, kp y c e v z⟩
    obtain ⟨o, ho, _⟩ := z
    exact I.base.free c o ho n (nx c)
  · obtain ⟨c, hc, hv⟩ := C.has i y e
    refine ⟨c, hc, fun v ev => ?_⟩
    obtain ⟨u, r, z⟩ := hv v ev
    exact ⟨u, r, kp y c hc _ z⟩

/-! ### the call of such a function, in the def that got it -/
/-- the running frame was entered where F's captured cells held vs -/
structure LamHere (X : Cx) (Fl : LF) (fr : List Str) (vs : List V) : Prop where
  cells : CellsAt Fl.cl fr (vs.map some) X.s_0.heap X.H_0
  ex : X.ex = []
/-- f(..), f a local that holds a lambda; rd: its body's reading, by its parameters and captured names -/
def dCallL (i n : Nat) (Fl : LF) (ws : List V) (rd : DE) (da : DA) : DE := fun c R => ∃ a ds, c.env[i]? = some (some (.clo a Fl ws ds)) ∧ da c fun xs c1 => xs.length = n ∧ rd ⟨xs.map some ++ ds.map some, c1.cs⟩ fun d c2 => R d { c1 with cs := c2.cs }
section
variable {X : Cx} {fr ps1 : List Str} {ws : List V} {k n : Nat} {x : Str} {p pos : Pos} {e : Expr} {es : List Expr} {da : DA} {rd : DE} {q : Str} {params : Arguments} {body : Expr} {scope : Scope} {cl : List (Str × Addr)} {c' : Addr}
theorem pd_callL (i : Nat) (hL : LamHere X ⟨q, params, body, scope, cl, c'⟩ fr ws) (hgd : X.A.guards = some []) (hr : Room (k + 1) X.A) (S : NScope (ps1 ++ fr) ps1 fr scope) (hn : ps1.length = n)
    (hb : ∀ (cl : List (Str × Addr)) (pm cv ctv : Value) (us : List Value), us.length = ps1.length → bindArgs (PySem.W.kla_fn "<lambda>" q params body scope cl pm cv ctv) ⟨us, []⟩ = pure (ps1.zip us))
    (hbody : ∀ (A : Around) (outer : List Env) (s : Shared) (H : Hp) (f : Addr), A.guards = some [] → Room k (A.deeper (envF (LF.nf ⟨q, params, body, scope, cl, c'⟩) f s.heap.objs.size)) → PD (ncx CX0 X.prog X.w X.K X.mg X.base (ps1 ++ fr) (LF.nf ⟨q, params, body, scope, cl, c'⟩) f A outer s H E0).nox body rd)
    (ha : PDA X (e :: es) da) (hN : X.N[i]? = some x := by rfl) (hv : Vis X.env.scope x := by first | exact Or.inl rfl | exact Or.inr (Or.inl rfl) | exact Or.inr (Or.inr rfl))
    (hd : (x == ("__debug__" : Str)) = false := by decide) (hcd : (x == ("__classdict__" : Str)) = false := by decide)
    (he : starEach (e :: es) X.env = (false, eval e X.env) :: starEach es X.env := by rfl) (hpl : (backTo pos (starEach es X.env)).any (·.1) = false := by rfl) :
    PD X (.Call (.Name x p) (e :: es) [] pos) (dCallL i n ⟨q, params, body, scope, cl, c'⟩ ws rd da) := by
  refine ⟨fun pins s σ H Q I ⟨as, H0, c, R, ok, ⟨a, ds, hc, hq⟩, kk⟩ => ?_⟩
  obtain ⟨v, e1, r1⟩ := ok.e.at_ i _ hc
  cases r1 with
  | clo g1 g2 g3 =>
    refine wpAny_Call_Name_kw (thn ((pe_var (pos := p) hN hv hd hcd).run pins s σ H (fun v H1 => v = .ref a ∧ H1 = H) I ⟨.ref a, e1, rfl, rfl⟩) fun u s1 ⟨v, H1, I1, r1, q1⟩ => ?_)
    obtain ⟨ev, eH⟩ := q1
    subst ev
    rw [eH] at I1
    obtain rfl : u = Value.ref a := r1
    have arg : liftA X.K da σ H fun vs H2 => ∃ as2 H02 c2 xs, Le as H0 as2 H02 ∧ Ok X.K as2 H02 H2 σ c2 ∧ RpA X.K as2 H02 vs xs ∧ xs.length = n ∧ rd ⟨xs.map some ++ ds.map some, c2.cs⟩ fun d c3 => R d { c2 with cs := c3.cs } :=
      ⟨as, H0, c, _, ok, hq, fun as1 H1 Hn c1 vs xs l1 ok1 r1 ⟨z1, z2⟩ => ⟨as1, H1, c1, xs, l1, ok1, r1, z1, z2⟩⟩
    have fnAt : ∀ {s : Shared} {H : Hp}, Inv X pins σ H s → H a = some (LamO a ⟨q, params, body, scope, cl, c'⟩) → PySem.W.FnAt a s.heap := fun {s H} I e => by
      obtain ⟨pm, ctv, ho⟩ := lamO_at I.hok e
      exact ⟨_, _, _, _, ho⟩
    refine PySem.W.callWith_F (first := []) (fnAt I1 (ok.c.ex _ _ g1)) (thn (ha.run pos pins s1 σ H _ I1 arg) fun us s2 ⟨vs, H2, I2, r, as2, H02, c2, xs, l2, ok2, rx, z1, z2⟩ => ⟨fnAt I2 (ok2.c.ex _ _ (l2.hp _ _ g1)), ?_⟩) he hpl
    show wpAny _ _ (call (.ref a) us) _ _ _
    obtain ⟨pm, ctv, of1⟩ := lamO_at I2.hok (ok2.c.ex _ _ (l2.hp _ _ g1))
    obtain ⟨⟨oc, vs', t, hoc, hdc, hvc⟩, _, _⟩ := I2.hok c' _ (ok2.c.ex _ _ (l2.hp _ _ g2))
    have C2 : CellsAt cl fr (ws.map some) s2.heap H2 := cells_lat hL.cells hL.ex I2
    have lus : us.length = ps1.length := by rw [← r.length, rx.length, z1, hn]
    have rc : codeAny (model X.prog X.w) X.A (.call (.ref a) ⟨us, []⟩) (CR CX0 X.stack X.prog X.w H2 s2 Q E0) s2 := by
      refine PySem.W.kla_callFunE hr.depth of1 rfl S.co S.gen rfl ⟨c', oc, vs', t, rfl, hoc, hdc, hvc⟩ ?_
      rw [hb _ _ _ _ us lus]
      refine wpAny_pure (wpAny_newFunctionEnv S.nocell (fun ⟨n, _⟩ hy => S.par n (List.of_mem_zip hy).1) (fun h₁ hns hsb => ⟨I2.nolimit.fresh _ hsb, ?_⟩) S.kind)
      show codeAny _ _ (.expr body (envF (LF.nf ⟨q, params, body, scope, cl, c'⟩) a s2.heap.objs.size)) _ _
      have kp : ∀ b o, s2.heap.get? b = some o → h₁.get? b = some o := fun b o e => hsb.extBut b o (Nat.ne_of_lt (Heap.lt_size e)) (Heap.get?_push_of_some _ e)
      have lvs : vs.length = ps1.length := by rw [rx.length, z1, hn]
      have lws : (ws.map some).length = fr.length := C2.len
      have J : Inv (ncx CX0 X.prog X.w X.K X.mg X.base (ps1 ++ fr) (LF.nf ⟨q, params, body, scope, cl, c'⟩) a X.A X.stack s2 H2 E0) [] (startF (ps1 ++ fr) vs (ws.map some)) H2 { s2 with heap := h₁, toks := s2.toks + (ps1.zip us).length } :=
        inv_startN S hr.hd I2.env0 lvs r C2 hns kp
      have est : startF (ps1 ++ fr) vs (ws.map some) = vs.map some ++ ws.map some := by
        unfold startF
        have e0 : (ps1 ++ fr).length - vs.length - (ws.map some).length = 0 := by rw [List.length_append, lvs, lws]; omega
        rw [e0]
        simp
      have oe : OkE X.K as2 H02 (vs.map some ++ ws.map some) (xs.map some ++ ds.map some) := by
        have g3' := g3.mono l2
        have ra := rx.append g3'
        refine ⟨by simp [rx.length, g3.length], fun j d ej => ?_⟩
        rw [← List.map_append, List.getElem?_map] at ej
        cases w0 : (xs ++ ds)[j]? with
        | none => rw [w0] at ej; cases ej
        | some d' =>
          rw [w0] at ej
          cases ej
          obtain ⟨v, e1, e2⟩ := ra.get w0
          exact ⟨v, by rw [← List.map_append, List.getElem?_map, e1]; rfl, e2⟩
      have lt : lift X.K rd (startF (ps1 ++ fr) vs (ws.map some)) H2 Q := by
        rw [est]
        exact ⟨as2, H02, ⟨xs.map some ++ ds.map some, c2.cs⟩, _, ⟨ok2.c, oe⟩, z2, fun as3 H3 Hn c3 v d l3 ok3 r3 q3 => kk as3 H3 Hn { c2 with cs := c3.cs } v d (l2.trans l3) ⟨ok3.c, ok2.e.mono l3⟩ r3 q3⟩
      refine PySem.W.kla_codeExpr (wpAny_mono ((hbody X.A X.stack s2 H2 a hgd (hr.deeper _)).nox.run [] _ _ H2 Q J lt) (fun v s' hq => ?_) fun e s' hq => hq)
      obtain ⟨w', H', J', rv, q⟩ := hq
      exact ⟨w', H', J'.os, J'.bare, J'.base, J'.hok, rv, q⟩
    refine wpAny_call (codeAny_mono rc fun r s' hq => ?_)
    cases r with
    | error e => exact False.elim hq
    | ok fl =>
      cases fl with
      | ret u => exact I2.after hq
      | next => exact False.elim hq
      | brk => exact False.elim hq
      | cont => exact False.elim hq
end
end DL

/-! a def that gets a lambda as its last argument; the law's end with a code object's table -/
namespace DL
open L2 PySem PyProof.Rows LamX NdefX

/-! ### a def, called where the captured cells hold ws -/
structure FnGL (P : Program) (w : World) (K : PySem.W.Frag) (mg : Str → Option Value) (base : Heap) (CX : CXT) (k : Nat) (f : Addr) (fd : FuncData) (ps : List Str) (cl : List (Str × Addr)) (fr : List Str) (ws : List V) (sp : Sp) : Prop where
  len : ∀ vs H Q E, sp vs H Q E → vs.length = ps.length
  run : ∀ (A : Around) (outer : List Env) (s : Shared) (H : Hp) (args : Args) (us : List Value) (vs : List V) (Q : VK) (E : XK), A.guards = some [] → CellsAt cl fr (ws.map some) s.heap H → Room k A → Env0 P w K mg base A outer s H → BindsTo s fd args (ps.zip us) → Vals vs us → sp vs H Q E →
    codeAny (model P w) A (.call (.ref f) args) (CR CX outer P w H s Q E) s
section
variable {P : Program} {w : World} {K : PySem.W.Frag} {mg : Str → Option Value} {base : Heap} {cl : List (Str × Addr)} {fr : List Str} {ws : List V}
theorem FnGL.mono {CX : CXT} {j k : Nat} {f : Addr} {fd : FuncData} {ps : List Str} {sp : Sp} (F : FnGL P w K mg base CX j f fd ps cl fr ws sp) (h : j ≤ k) : FnGL P w K mg base CX k f fd ps cl fr ws sp :=
  ⟨F.len, fun A outer s H args us vs Q E hg C hr => F.run A outer s H args us vs Q E hg C (hr.mono h)⟩
theorem fnGL_of {CX : CXT} {k : Nat} {f : Addr} {name qual : Str} {params : Arguments} {body : List Stmt} {scope : Scope} {dV kV doc pm cdv ct oc : Value} {an od : Option Addr} {osl : Array (Option Value)} {N ps : List Str} {sp : Sp}
    (lk : K.lookup f = some ⟨oc, od, .func (PySem.W.fnOf name qual params body scope dV kV doc pm an cdv ct), osl⟩) (hcd : PySem.W.codeIn K cdv qual = true) (S : FnScope N ps scope) (len : ∀ vs H Q E, sp vs H Q E → vs.length = ps.length)
    (hbody : ∀ (A : Around) (outer : List Env) (s : Shared) (H : Hp) (vs : List V) (Q : VK) (E : XK), A.guards = some [] → CellsAt cl fr (ws.map some) s.heap H → Room k (A.deeper (PyProof.Rows.envOfC qual scope s.heap.objs.size f cdv)) → sp vs H Q E →
      ∃ t, PSs (cxOf CX P w K mg base N qual scope f cdv A outer s H E) body t ∧ t { nx := fun _ H' => Q .non H', rt := Q } (L2.start N vs) H) : FnGL P w K mg base CX (k + 1) f (PySem.W.fnOf name qual params body scope dV kV doc pm an cdv ct) ps cl fr ws sp := by
  refine ⟨len, ?_⟩
  intro A outer s H args us vs Q E hg C hr e0 hb r hsp
  have same : ∀ b o, base.get? b = some o → s.heap.get? b = some o := fun b o e => (e0.bs b o e).1
  have KX : K.In s.heap := e0.mod.kin.keeps same
  have lim : s.heap.NoLimit := e0.mod.nolimit.keeps same
  have kinds : ∀ y ∈ ps.zip us, scope.names.lookup y.1 = some .local ∨ (scope.names.lookup y.1 = some .cell ∧ ((cellsFrom (s.heap.objs.size + 1) scope.names []).lookup y.1).isSome = true) := by
    rintro ⟨n, v⟩ hy
    rcases S.par n (List.of_mem_zip hy).1 with q | q
    · exact .inl q
    · exact .inr ⟨q, PySem.W.cellsFrom_some _ _ _ (.inl q)⟩
  apply codeAny_call_function hr.depth (KX _ _ lk) rfl S.co S.gen rfl (PySem.W.codeRec_of KX hcd)
  apply hb
  apply wpAny_newFunctionEnv_cells S.kind kinds
  intro env he s1 x
  subst he
  refine ⟨lim.keeps x.toInCall.keep, codeAny_func ?_⟩
  obtain ⟨t, ht, hq⟩ := hbody A outer s H vs Q E hg C (hr.deeper _) hsp
  have I := inv_start (CX := CX) (E := E) (outer := outer) (f := f) (cd := cdv) S hr.hd e0 (len _ _ _ _ hsp) r x
  refine wpAny_mono (ht.run [] s1 (L2.start N vs) H _ I hq) (fun fl s' hs => ?_) (fun e s' hs => hs)
  cases fl with
  | ret u => exact let ⟨v, σ', H', J, rv, q⟩ := hs; ⟨v, H', J.os, J.bare, J.base, J.hok, rv, q⟩
  | next => exact let ⟨σ', H', J, q⟩ := hs; ⟨V.non, H', J.os, J.bare, J.base, J.hok, rfl, q⟩
  | brk => exact let ⟨_, _, _, q⟩ := hs; False.elim q
  | cont => exact let ⟨_, _, _, q⟩ := hs; False.elim q
/-- a def that may raise, by its body: it was given a lambda -/
theorem fn_bodyXL {x qual : Str} {params : Arguments} {body : List Stmt} {scope : Scope} {dvs : List V} {kws : List (Str × V)} {f : Addr} {fd : FuncData} {N ps : List Str} {k : Nat} {sem : SemX} {sb : DS} {Fl : LF}
    (F : FunD K x qual params body scope dvs kws f fd) (S : FnScope N ps scope) (len : ∀ ds cs R XX, sem ds cs R XX → ds.length = ps.length)
    (hb : ∀ (cdv : Value) (A : Around) (outer : List Env) (s : Shared) (H : Hp) (E : XK), A.guards = some [] → Room k (A.deeper (PyProof.Rows.envOfC qual scope s.heap.objs.size f cdv)) → LamHere (cxOf (L2.CX P w) P w K mg base N qual scope f cdv A outer s H E) Fl fr ws → PDB (cxOf (L2.CX P w) P w K mg base N qual scope f cdv A outer s H E) body sb)
    (h : ∀ ds cs R XX, sem ds cs R XX → sb { nx := fun c => R .non c.cs, rt := R, xx := fun x c => XX x c.cs } ⟨env0 N.length ds, cs⟩) : FnGL P w K mg base (L2.CX P w) (k + 1) f fd ps Fl.cl fr ws (FnDX K mg sem) := by
  obtain ⟨oc, od, dV, kV, doc, pm, an, cdv, ct, osl, rfl, lk, hcd, _, _⟩ := F.ex
  refine fnGL_of lk hcd S (fun vs H Q E ⟨as, H0, ds, cs, R, XX, oc, rd, sm, _⟩ => rd.length.trans (len ds cs R XX sm)) fun A outer s H vs Q E hg C hr ⟨as, H0, ds, cs, R, XX, oc, rd, sm, q, qx⟩ => ?_
  refine ⟨_, hb cdv A outer s H E hg hr ⟨C, rfl⟩ (fun cls d _ H => E cls d H) (takes_of rfl rfl rfl rfl), as, H0, ⟨env0 N.length ds, cs⟩, _, ⟨oc, env0_ok rd⟩, h ds cs R XX sm, ⟨fun as' H0' H' σ' c' l ok' hq => q as' H0' H' c'.cs .non .non l ok'.c .non hq, fun _ _ _ _ _ _ _ z => z.elim, fun _ _ _ _ _ _ _ z => z.elim, fun as' H0' H' cs' v d l oc' rp hq => q as' H0' H' cs' v d l oc' rp hq, fun as' H0' H' σ' c' x d C l ok' xd hm hq => qx as' H0' H' c'.cs x d C l ok'.c xd hm hq⟩⟩
end

/-! ### the call with a lambda -/
/-- the table of the def x's code object is among the things that change -/
def HasTab (x q : Str) (cs : Cells) : Prop := ∃ kt, cs kt = some (.tab x q)
/-- x(.., lambda ..): js: where the captured names stand -/
def dFnLX (n : Nat) (tx q : Str) (js : List Nat) (sem : LF → List V → SemX) (da : DA) : DEX := fun XX c R => da c fun ds c1 => ds.length = n ∧ HasTab tx q c1.cs ∧ ∃ dcs : List D, (js.map fun j => c1.env[j]?) = dcs.map (fun d => some (some d)) ∧
  ∀ (a : Addr) (Fl : LF) (ws : List V), sem Fl ws (ds ++ [.clo a Fl ws dcs]) c1.cs (fun d cs' => R d { c1 with cs := cs' }) fun x cs' => XX x { c1 with cs := cs' }
/-- the captured names' values, low -/
theorem caps_at {K : PySem.W.Frag} {as : AsM} {H0 : Hp} {σ : L2.St} {env : List (Option D)} (ok : OkE K as H0 σ env) : ∀ (js : List Nat) (dcs : List D), (js.map fun j => env[j]?) = dcs.map (fun d => some (some d)) → ∃ vs, js.map (slotAt σ) = vs.map some ∧ RpA K as H0 vs dcs
  | [], [], _ => ⟨[], rfl, .nil⟩
  | [], d :: ds, h => by cases h
  | j :: js, [], h => by cases h
  | j :: js, d :: ds, h => by
    simp only [List.map_cons, List.cons.injEq] at h
    obtain ⟨v, e1, e2⟩ := ok.at_ j d h.1
    obtain ⟨vs, g1, g2⟩ := caps_at ok js ds h.2
    exact ⟨v :: vs, by simp only [List.map_cons, g1, slotAt_of e1], .cons e2 g2⟩
/-- the reading of a lambda's making, low -/
def tLamV (P : Addr) (q : Str) (pos : Pos) (mk : Addr → LF) : TE := fun σ H Q => ∃ ps, H P = some (.tbl ps) ∧ TriplesOk ps.toList ∧ (∀ (pos : Pos) (cv : Value), codeAmong pos ps.toList = some cv → ∃ c, cv = .ref c ∧ H c = some (CodeO c q)) ∧
  (∀ (f c' : Addr), codeAmong pos ps.toList = some (.ref c') → H f = none → Q (.ref f) (upd H f (LamO f (mk c')))) ∧
  ∀ (f c' : Addr) (ps' : Array Value), TriplesOk ps'.toList → H c' = none → c' ≠ P → (∀ (pos : Pos) (cv : Value), codeAmong pos ps'.toList = some cv → codeAmong pos ps.toList = some cv ∨ cv = .ref c') → f ≠ c' → f ≠ P → H f = none →
    Q (.ref f) (upd (upd (upd H P (.tbl ps')) c' (CodeO c' q)) f (LamO f (mk c')))
/-- arguments, the last one a lambda -/
def tAL (K : PySem.W.Frag) (P : Addr) (q : Str) (pos : Pos) (mk : Addr → LF) (da : DA) : TA := fun σ H Q => liftA K da σ H fun vs H1 => tLamV P q pos mk σ H1 fun v H2 => Q (vs ++ [v]) H2
section
variable {X : Cx} {e : Expr} {es : List Expr} {d : DE} {da : DA} {c P : Addr} {lpos : Pos} {params : Arguments} {body : Expr} {scope : Scope} {q : Str} {mk : Addr → LF}
theorem pe_lam (TB : TabB X.base X.mg c P) (hcode : X.env.code = .ref c) (hq : X.env.qual ++ "<lambda>" = q) (hdef : defaultsOf params X.env = ([], [])) (hfree : ∀ y ∈ scope.names, y.2 = .free → X.env.scope.names.lookup y.1 = some .cell ∨ X.env.scope.names.lookup y.1 = some .free) :
    PE X (.Lambda params body scope lpos) (tLamV P q lpos fun c' => ⟨q, params, body, scope, cloFrom X.env.cells scope.names [], c'⟩) := by
  subst hq
  refine ⟨fun pins s σ H Q I ⟨ps, h1, h2, h3, h4, h5⟩ => ?_⟩
  refine lam_make3 I TB hcode h1 h2 h3 hdef (fun y hy e => (hfree y hy e).elim (fun z => I.ok.has _ (.inl z)) fun z => I.ok.has _ (.inr z)) (fun f c' s' g1 g2 J => ⟨.ref f, _, J, rfl, h4 f c' g1 g2⟩) fun f c' ps' s' g1 g2 g3 g4 g5 g6 g7 J => ⟨.ref f, _, J, rfl, h5 f c' ps' g1 g2 g3 g4 g5 g6 g7⟩
theorem pal_nil (h : PE X e (tLamV P q lpos mk)) (hs : starEach (e :: []) X.env = (false, eval e X.env) :: starEach [] X.env := by rfl) : PA X [e] (tAL X.K P q lpos mk dNil) :=
  pa_imp (pa_cons h pa_nil hs) fun σ H Q z => lift_nil σ H _ z
theorem pal_cons (hd : PD X e d) (hr : PA X es (tAL X.K P q lpos mk da)) (hs : starEach (e :: es) X.env = (false, eval e X.env) :: starEach es X.env := by rfl) : PA X (e :: es) (tAL X.K P q lpos mk (dCons d da)) :=
  pa_imp (pa_cons hd hr hs) fun σ H Q z => lift_cons σ H _ z
end
section
variable {X : Cx} {k n : Nat} {f : Addr} {fd : FuncData} {ps fr : List Str} {js : List Nat} {gD : List D → List D → List D} {x tx q : Str} {p lpos pos : Pos} {e : Expr} {es : List Expr} {da : DA} {c P : Addr} {params : Arguments} {body : Expr} {scope : Scope} {sem : LF → List V → SemX}
theorem pdx_fnL (F : ∀ (cl : List (Str × Addr)) (c' : Addr) (ws : List V), FnGL X.prog X.w X.K X.mg X.base (L2.CX X.prog X.w) k f fd ps cl fr ws (FnDX X.K X.mg (sem ⟨q, params, body, scope, cl, c'⟩ ws))) (hgd : X.A.guards = some []) (hr : Room k X.A) (hg : Gl X x) (hm : X.mg x = some (.ref f)) (hk : PySem.W.keepIn X.K (.ref f) = true) (hb : Bnd X.K fd ps (n + 1) [] (fun ds _ => ds))
    (TK : TabK X.K tx P) (hfree : ∀ y ∈ scope.names, y.2 = .free → X.env.scope.names.lookup y.1 = some .cell ∨ X.env.scope.names.lookup y.1 = some .free) (hfr : ∀ y ∈ fr, (y, NameKind.free) ∈ scope.names) (hjs : js.map (fun j => X.N[j]?) = fr.map some)
    (ha : PA X (e :: es) (tAL X.K P q lpos (fun c' => ⟨q, params, body, scope, cloFrom X.env.cells scope.names [], c'⟩) da))
    (hdb : (x == ("__debug__" : Str)) = false := by decide) (he : starEach (e :: es) X.env = (false, eval e X.env) :: starEach es X.env := by rfl) (hpl : (backTo pos (starEach es X.env)).any (·.1) = false := by rfl) :
    PDX X (.Call (.Name x p) (e :: es) [] pos) (dFnLX n tx q js sem da) := by
  intro W tk
  refine ⟨fun pins s σ H Q I ⟨as, H0, c, R, XX, ok, hq, tie, kk⟩ => ?_⟩
  refine wpAny_Call_Name_kw (ld_glob I hg hm ?_ hdb)
  have arg : tAL X.K P q lpos (fun c' => ⟨q, params, body, scope, cloFrom X.env.cells scope.names [], c'⟩) da σ H fun us H2 => ∃ as2 H02 c2 ds a c' ws dcs, Le as H0 as2 H02 ∧ Ok X.K as2 H02 H2 σ c2 ∧ RpA X.K as2 H02 us (ds ++ [.clo a ⟨q, params, body, scope, cloFrom X.env.cells scope.names [], c'⟩ ws dcs]) ∧ ds.length = n ∧ js.map (slotAt σ) = ws.map some ∧
      sem ⟨q, params, body, scope, cloFrom X.env.cells scope.names [], c'⟩ ws (ds ++ [.clo a ⟨q, params, body, scope, cloFrom X.env.cells scope.names [], c'⟩ ws dcs]) c2.cs (fun d cs' => R d { c2 with cs := cs' }) fun x cs' => XX x { c2 with cs := cs' } := by
    refine ⟨as, H0, c, _, ok, hq, fun as1 H1 Hn c1 vs ds l1 ok1 r1 ⟨z1, ⟨kt, hkt⟩, dcs, z3, z4⟩ => ?_⟩
    obtain ⟨p, u, h1, h2, h3, h4⟩ := ok1.c.cel kt _ hkt
    obtain ⟨ws, g1, g2⟩ := caps_at ok1.e js dcs z3
    cases h4 with
    | tab t0 t1 t2 =>
      rename_i ps0
      have eP : p = P := t0.inj TK
      subst eP
      refine ⟨ps0, h3, t1, fun pos cv hc => (t2 pos cv hc).elim fun c z => ⟨c, z.1, ok1.c.ex _ _ z.2⟩, fun f c' hc hf => ?_, fun f c' ps' q1 q2 q3 q4 q5 q6 q7 => ?_⟩
      · obtain ⟨c2, e2, hc2⟩ := t2 _ _ hc
        cases e2
        obtain ⟨l2, ok2⟩ := ok1.c.grow (o := LamO f ⟨q, params, body, scope, cloFrom X.env.cells scope.names [], c'⟩) hf
        exact ⟨as1, _, c1, ds, f, c', ws, dcs, l1.trans l2, ⟨ok2, ok1.e.mono l2⟩, (r1.mono l2).append (.cons (.clo upd_same (l2.hp _ _ hc2) (g2.mono l2)) .nil), z1, g1, z4 _ _ _⟩
      · obtain ⟨l2, ok2⟩ := ok1.c.grow (o := CodeO c' q) q2
        have tr : RpC X.K as1 (upd H1 c' (CodeO c' q)) p (.tbl ps') (.tab tx q) := .tab t0 q1 fun pos cv hc => by
          rcases q4 pos cv hc with z | z
          · obtain ⟨c2, e2, hc2⟩ := t2 _ _ z
            exact ⟨c2, e2, l2.hp _ _ hc2⟩
          · exact ⟨c', z, upd_same⟩
        have ok3 := ok2.turn hkt h1 tr
        rw [put_back hkt] at ok3
        have eH : upd (upd Hn c' (CodeO c' q)) p (.tbl ps') = upd (upd Hn p (.tbl ps')) c' (CodeO c' q) := by
          funext b
          by_cases b1 : b = p
          · subst b1; rw [upd_same, upd_ne q3.symm, upd_same]
          · by_cases b2 : b = c'
            · subst b2; rw [upd_ne b1, upd_same, upd_same]
            · rw [upd_ne b1, upd_ne b2, upd_ne b2, upd_ne b1]
        rw [eH] at ok3
        have hf3 : upd (upd Hn p (.tbl ps')) c' (CodeO c' q) f = none := by rw [upd_ne q5, upd_ne q6]; exact q7
        obtain ⟨l4, ok4⟩ := ok3.grow (o := LamO f ⟨q, params, body, scope, cloFrom X.env.cells scope.names [], c'⟩) hf3
        have l := l2.trans l4
        exact ⟨as1, _, c1, ds, f, c', ws, dcs, l1.trans l, ⟨ok4, ok1.e.mono l⟩, (r1.mono l).append (.cons (.clo upd_same (l4.hp _ _ upd_same) (g2.mono l)) .nil), z1, g1, z4 _ _ _⟩
  refine PySem.W.callWith_K (h₀ := X.base) I.ok.mod.kin hk (thn (ha.run pos pins s σ H _ I arg) fun us s1 ⟨vs, H1, I1, r, as1, H01, c1, ds, a, c', ws, dcs, l1, ok1, rd, z1, z2, z3⟩ => ⟨I1.kIn, ?_⟩) he hpl
  have C1 := cells_of I1 (Caps.made (fr := fr) (js := js) I1.ok hfree hfr hjs)
  rw [z2] at C1
  obtain ⟨g, to, rel⟩ := hb.bd
  have lds : (ds ++ [D.clo a ⟨q, params, body, scope, cloFrom X.env.cells scope.names [], c'⟩ ws dcs]).length = n + 1 := by rw [List.length_append, z1]; rfl
  obtain ⟨vs', rv, rd'⟩ := rel (zs := []) (es := []) (ws := []) (rd.length.trans lds) rfl r rd .nil .nil
  have sp : FnDX X.K X.mg (sem ⟨q, params, body, scope, cloFrom X.env.cells scope.names [], c'⟩ ws) vs' H1 Q (WE W σ) := ⟨as1, H01, _, c1.cs, _, _, ok1.c, rd', z3, fun as' H0' H' cs' v d l oc rp hq => kk as' H0' H' { c1 with cs := cs' } v d (l1.trans l) ⟨oc, ok1.e.mono l⟩ rp hq,
    fun as' H0' H' cs' x d C l oc xd hm hq => (tie.mono l1) as' H0' H' σ { c1 with cs := cs' } x d C l ⟨oc, ok1.e.mono l⟩ xd hm hq⟩
  refine wpAny_call (codeAny_mono ((F _ c' ws).run X.A X.stack s1 H1 _ _ vs' Q (WE W σ) hgd C1 hr I1.env0 (to s1 us [] I1.kIn (by rw [← r.length, rd.length, lds]) rfl) rv sp) fun res s' hq => ?_)
  cases res with
  | error e => exact passAt tk σ pins H1 s1 e s' I1 hq
  | ok fl =>
    cases fl with
    | ret u => exact I1.after hq
    | _ => exact False.elim hq
end
end DL
namespace DL
open L2 PySem PyProof.Rows LamX NdefX
/-- a lambda's text: the last argument of a body's last statement -/
def lamOf (b : List Stmt) : Expr := match b.getLast? with
  | some (.Expr (.Call _ args _ _) _) => args.getLastD (.Lambda ⟨[], [], none, [], [], none, []⟩ (.Constant .none 0 ⟨0, 0, 0, 0⟩) ⟨.function, [], false, false, []⟩ ⟨0, 0, 0, 0⟩)
  | _ => .Lambda ⟨[], [], none, [], [], none, []⟩ (.Constant .none 0 ⟨0, 0, 0, 0⟩) ⟨.function, [], false, false, []⟩ ⟨0, 0, 0, 0⟩
def lamP : Expr → Arguments | .Lambda p _ _ _ => p | _ => ⟨[], [], none, [], [], none, []⟩
def lamB : Expr → Expr | .Lambda _ b _ _ => b | e => e
def lamS : Expr → Scope | .Lambda _ _ s _ => s | _ => ⟨.function, [], false, false, []⟩
/-- a def that may raise, its code object known -/
theorem fn_bodyXC {P : Program} {w : World} {K : PySem.W.Frag} {mg : Str → Option Value} {base : Heap} {x qual : Str} {params : Arguments} {body : List Stmt} {scope : Scope} {dvs : List V} {kws : List (Str × V)} {f c : Addr} {fd : FuncData} {N ps : List Str} {k : Nat} {sem : SemX} {sb : DS}
    (F : FunD K x qual params body scope dvs kws f fd) (hc : fd.code = .ref c) (S : FnScope N ps scope) (len : ∀ ds cs R XX, sem ds cs R XX → ds.length = ps.length)
    (hb : ∀ (A : Around) (outer : List Env) (s : Shared) (H : Hp) (E : XK), A.guards = some [] → Room k (A.deeper (PyProof.Rows.envOfC qual scope s.heap.objs.size f (.ref c))) → PDB (cxOf (L2.CX P w) P w K mg base N qual scope f (.ref c) A outer s H E) body sb)
    (h : ∀ ds cs R XX, sem ds cs R XX → sb { nx := fun c => R .non c.cs, rt := R, xx := fun x c => XX x c.cs } ⟨env0 N.length ds, cs⟩) : FnG P w K mg base (L2.CX P w) (k + 1) f fd ps (FnDX K mg sem) := by
  obtain ⟨oc, od, dV, kV, doc, pm, an, cdv, ct, osl, rfl, lk, hcd, _, _⟩ := F.ex
  have e : cdv = .ref c := hc
  subst e
  refine fnG_of lk hcd S (fun vs H Q E ⟨as, H0, ds, cs, R, XX, oc, rd, sm, _⟩ => rd.length.trans (len ds cs R XX sm)) fun A outer s H vs Q E hg hr ⟨as, H0, ds, cs, R, XX, oc, rd, sm, q, qx⟩ => ?_
  refine ⟨_, hb A outer s H E hg hr (fun cls d _ H => E cls d H) (takes_of rfl rfl rfl rfl), as, H0, ⟨env0 N.length ds, cs⟩, _, ⟨oc, env0_ok rd⟩, h ds cs R XX sm, ⟨fun as' H0' H' σ' c' l ok' hq => q as' H0' H' c'.cs .non .non l ok'.c .non hq, fun _ _ _ _ _ _ _ z => z.elim, fun _ _ _ _ _ _ _ z => z.elim, fun as' H0' H' cs' v d l oc' rp hq => q as' H0' H' cs' v d l oc' rp hq, fun as' H0' H' σ' c' x d C l ok' xd hm hq => qx as' H0' H' c'.cs x d C l ok'.c xd hm hq⟩⟩
end DL

/-! the law's own call, where a code object's table may change -/
namespace DL
open PySem L2 LamX
theorem law_goT {P : Program} {w : World} {K : PySem.W.Frag} {mg mb : Str → Option Value} {k : Nat} {fa a c T : Addr} {fd : FuncData} {x tx tq : Str} {sem : Sem} {s1 : Shared} {vs : List Value} {ns : List Int}
    (KX : K.In s1.heap) (hns : s1.heap.Ns mainGlobals mg) (hb : s1.heap.Ns builtinsNs mb) (hbb : ∀ x : Str, x ≠ "__name__" → mb x = bootBuiltins x) (hlim : s1.heap.NoLimit) (hg : s1.gens = #[])
    (hT : s1.heap.get? T = some { cls := .none, data := .fields #[] }) (nT : K.lookup T = none) (hC : PySem.W.CodeHd s1.heap c T) (TK : TabK K tx T)
    (hbm : ∃ (bm : Addr) (ob : Obj), mg "__builtins__" = some (.ref bm) ∧ bm ≠ builtinsNs ∧ s1.heap.get? bm = some ob ∧ ob.cls = .type "module" ∧ ob.dict = some builtinsNs ∧ ob.data = .plain)
    (ha : s1.heap.get? a = some { cls := .type "list", data := .seq vs.toArray }) (hi : PyProof.Rows.IntsAre vs ns) (hl : ns.length ≤ sizeLine) (hr : Room k callerA)
    (F : ∀ base : Heap, K.In base → base.Ns mainGlobals mg → TabB base mg c T → FnG P w K mg base CX0 k fa fd [x] (FnD K sem)) (hbind : ∀ (s : Shared) (u : Value), BindsTo s fd ⟨[u], []⟩ [(x, u)])
    (hsem : ∀ R : D → Cells → Prop, (∀ cs, R (.bl true) cs) → sem [.slst (ns.map D.int)] (put (fun _ => none) 0 (.tab tx tq)) R) :
    codeAny (model P w) callerA (.call (.ref fa) ⟨[.ref a], []⟩) (fun r s' => r = .ok (.ret (.bool true)) ∧ OldK s1.heap s'.heap ∧ s'.os = s1.os ∧ PyProof.Rows.AllBare s'.gens) s1 := by
  have aT : a ≠ T := fun z => by
    rw [← z, ha] at hT
    cases hT
  -- a heap in which at most the script and the table are tracked
  have main : ∀ H : Hp, H T = some (.tbl #[]) → (∀ b, b ≠ T → H b = none ∨ ∃ o xs, H b = some (.frz o (.lst xs))) → SqL K (fun b => if b = T then none else H b) a (ns.map V.int) → HOk P w H s1.heap → (∀ b, H b ≠ none → b = a ∨ b = T) → (H a ≠ none → K.lookup a = none) →
      codeAny (model P w) callerA (.call (.ref fa) ⟨[.ref a], []⟩) (fun r s' => r = .ok (.ret (.bool true)) ∧ OldK s1.heap s'.heap ∧ s'.os = s1.os ∧ PyProof.Rows.AllBare s'.gens) s1 := by
    intro H tT only sq hok alone apart
    have free : ∀ {b : Addr} {o : Obj}, s1.heap.get? b = some o → (∀ vs n, o.data ≠ .seq vs n) → o.data ≠ .fields #[] → H b = none := by
      intro b o e n1 n2
      rcases Option.eq_none_or_eq_some (H b) with q | ⟨u, q⟩
      · exact q
      · rcases alone b (by rw [q]; exact Option.some_ne_none u) with z | z
        · rw [z, ha] at e
          cases e
          exact absurd rfl (n1 _ _)
        · rw [z, hT] at e
          cases e
          exact absurd rfl n2
    have nodict : ∀ {b : Addr} {o : Obj} {es : Array DictEntry} {ep : Nat}, s1.heap.get? b = some o → o.data = .dict es ep → H b = none := by
      intro b o es ep e d
      exact free e (fun vs n z => Data.noConfusion (d.symm.trans z)) fun z => Data.noConfusion (d.symm.trans z)
    have keepNs : ∀ {b : Addr} {m : Str → Option Value}, s1.heap.Ns b m → (hidT s1.heap H).Ns b m := by
      rintro b m ⟨o, es, ep, e, d, r⟩
      exact ⟨o, es, ep, hidT_get e (nodict e d), d, r⟩
    have keepK : K.In (hidT s1.heap H) := by
      intro b o e
      refine hidT_get (KX b o e) ?_
      rcases Option.eq_none_or_eq_some (H b) with q | ⟨u, q⟩
      · exact q
      · rcases alone b (by rw [q]; exact Option.some_ne_none u) with z | z
        · rw [z] at e q
          rw [apart (by rw [q]; exact Option.some_ne_none u)] at e
          cases e
        · rw [z, nT] at e
          cases e
    have tb : TabB (hidT s1.heap H) mg c T := by
      refine ⟨?_, ?_, ?_⟩
      · obtain ⟨o, us, file, tf, flags, tg, inF, text, tt, e1, r1, r2, r3, r⟩ := hC
        refine ⟨o, us, file, tf, flags, tg, inF, text, tt, hidT_get e1 (free e1 (fun vs n z => Data.noConfusion (r2.symm.trans z)) fun z => ?_), r1, r2, r3, r⟩
        rw [r2] at z
        cases z
        simp at r3
      · obtain ⟨bm, ob, b1, b2, b3, b4, b5, b6⟩ := hbm
        refine ⟨bm, ob, b1, b2, fun q => ?_, fun q => ?_, hidT_get b3 (free b3 (fun vs n z => Data.noConfusion (b6.symm.trans z)) fun z => Data.noConfusion (b6.symm.trans z)), b4, b5, b6⟩
        · obtain ⟨o, es, ep, e, hd, _⟩ := hns
          rw [q, e] at b3
          cases b3
          exact Data.noConfusion (hd.symm.trans b6)
        · rw [q, hT] at b3
          cases b3
          cases b6
      · intro z
        obtain ⟨o, es, ep, e, hd, _⟩ := hns
        rw [z, hT] at e
        cases e
        cases hd
    obtain ⟨mc, lim1, lim2⟩ := hlim
    have en : Env0 P w K mg (hidT s1.heap H) callerA [] s1 H :=
      ⟨rfl, ⟨keepK, keepNs hns, ⟨mb, keepNs hb, hbb⟩, ⟨mc, keepNs lim1, lim2⟩⟩, fun b o e => of_hidT e, Nat.le_of_eq (hidT_size _ _), trivial, fun b z => (nomatch z), hok, .of_eq hg⟩
    have sp : FnD K sem [.ref a] H (fun v _ => v = .bl true) E0 := by
      refine ⟨fun k => if k = 0 then some T else none, fun b => if b = T then none else H b, [.slst (ns.map D.int)], put (fun _ => none) 0 (.tab tx tq), fun d _ => d = .bl true, ⟨fun b o e => ?_, ⟨1, fun k hk => if_neg (by omega)⟩, fun k o e => ?_, fun k k' p e1 e2 _ _ => ?_⟩, .cons (.slst sq RpA.ints) .nil, hsem _ fun _ => rfl, fun as' H0' H' cs' v d _ _ r e => by subst e; cases r; rfl⟩
      · by_cases z : b = T
        · rw [if_pos z] at e; cases e
        · rw [if_neg z] at e; exact e
      · by_cases z : k = 0
        · subst z
          rw [put_same] at e
          cases e
          exact ⟨T, _, if_pos rfl, if_pos rfl, tT, .tab TK True.intro fun pos cv hc => by
            have z : codeAmong pos [] = some cv := hc
            simp [codeAmong] at z⟩
        · rw [put_ne z] at e; cases e
      · by_cases z : k = 0
        · by_cases z' : k' = 0
          · rw [z, z']
          · rw [if_neg z'] at e2; cases e2
        · rw [if_neg z] at e1; cases e1
    refine codeAny_mono ((F _ keepK (keepNs hns) tb).run callerA [] s1 H _ [.ref a] [.ref a] _ _ rfl hr en (hbind s1 (.ref a)) (.cons rfl .nil) sp) fun r s' h => ?_
    cases r with
    | error e => exact False.elim h
    | ok fl =>
      cases fl with
      | ret u =>
        obtain ⟨v, H', os, bare, un, hok', rv, q⟩ := h
        have q' : v = .bl true := q
        subst q'
        cases rv
        have key : ∀ b o, b ≠ T → s1.heap.get? b = some o → s'.heap.get? b = some o := fun b o nb e => by
          rcases only b nb with q | ⟨ob, xs, q⟩
          · exact un.keep b o e q (fun z => nomatch z) (fun z => nomatch z)
          · have g1 := (hok b _ q).1
            rw [e] at g1
            cases g1
            exact (hok' b _ (un.frzs b _ _ q)).1
        obtain ⟨more, zm⟩ := un.tbls T #[] tT
        have grown : s'.heap.get? T = some { cls := .none, data := .fields (#[] ++ more) } := hok' T _ zm
        refine ⟨rfl, ⟨fun b o e => ?_, fun b o e => ?_⟩, os, bare⟩
        · by_cases hbT : b = T
          · subst hbT
            rw [hT] at e
            cases e
            exact .inr (.inl ⟨(hC.tab hT).isCodeTable, rfl, #[], more, rfl, by rw [Array.empty_append]; rw [Array.empty_append] at grown; exact grown⟩)
          · exact .inl (key b o hbT e)
        · by_cases hbT : b = T
          · subst hbT
            exact ⟨_, grown⟩
          · exact ⟨o, key b o hbT e⟩
      | _ => exact False.elim h
  have rv := vals_ints hi
  have lenV := hi.length
  rcases Option.eq_none_or_eq_some (K.lookup a) with hk | ⟨o, hk⟩
  · -- the script stands outside the written part
    refine main (fun b => if b = T then some (.tbl #[]) else if b = a then some (.frz { cls := .type "list", data := .seq vs.toArray } (.lst (ns.map V.int))) else none) (if_pos rfl) (fun b nb => ?_) (.inl (.inr ⟨{ cls := .type "list", data := .seq vs.toArray }, (if_neg aT).trans ((if_neg aT).trans (if_pos rfl))⟩)) (fun b u z => ?_) (fun b z => ?_) fun _ => hk
    · by_cases hba : b = a
      · exact .inr ⟨_, _, (if_neg nb).trans (if_pos hba)⟩
      · exact .inl ((if_neg nb).trans (if_neg hba))
    · by_cases hbT : b = T
      · have z' := (if_pos hbT).symm.trans z
        cases z'
        subst hbT
        exact hT
      · have z1 := (if_neg hbT).symm.trans z
        by_cases hba : b = a
        · have z' := (if_pos hba).symm.trans z1
          cases z'
          subst hba
          exact ⟨ha, by rw [List.length_map]; exact hl, vs, _, rv, ha⟩
        · have z' := (if_neg hba).symm.trans z1
          cases z'
    · by_cases hbT : b = T
      · exact .inr hbT
      · by_cases hba : b = a
        · exact .inl hba
        · exact absurd ((if_neg hbT).trans (if_neg hba)) z
  · have e := KX a o hk
    rw [ha] at e
    cases e
    refine main (fun b => if b = T then some (.tbl #[]) else none) (if_pos rfl) (fun b nb => .inl (if_neg nb)) (.inr ⟨_, vs.toArray, _, hk, rfl, rfl, rfl, ?_, ?_⟩) (fun b u z => ?_) (fun b z => ?_) fun z => absurd (if_neg aT) z
    · rw [List.size_toArray, lenV]; exact hl
    · simpa using rv
    · by_cases hbT : b = T
      · have z' := (if_pos hbT).symm.trans z
        cases z'
        subst hbT
        exact hT
      · have z' := (if_neg hbT).symm.trans z
        cases z'
    · by_cases hbT : b = T
      · exact .inr hbT
      · exact absurd (if_neg hbT) z
/-- what the head tells of the law's promise, with the table -/
structure AtT (P : Program) (w : World) (K : PySem.W.Frag) (k : Nat) (x tx : Str) (sem : Sem) (mg : Str → Option Value) (fa : Addr) (h : Heap) : Prop where
  ex : ∃ (fd : FuncData) (c T : Addr), h.get? T = some { cls := .none, data := .fields #[] } ∧ K.lookup T = none ∧ PySem.W.codeHdIn K c T = true ∧ TabK K tx T ∧ (∀ (s : Shared) (u : Value), BindsTo s fd ⟨[u], []⟩ [(x, u)]) ∧
    ∀ base : Heap, K.In base → base.Ns mainGlobals mg → TabB base mg c T → FnG P w K mg base CX0 k fa fd [x] (FnD K sem)
/-- the goal that the head leaves -/
theorem walk_endT {l : PySem.W.OpenLaw} {k : Nat} {q : Program} {loose : List Str} {XP : (Str → Option Value) → Heap → Prop} {YP : World → Heap → Prop} {d : DefRec} {K : Params → PySem.W.Frag} {sem : Sem} {x tx tq : Str}
    (hn : l.most = some 63) (hdf : d.params.defaults = []) (hr : Room k callerA) (hY : ∀ (w : World) (h : Heap), YP w h → (K w.params).In h)
    (F : ∀ (w : World) (mg : Str → Option Value) (fa : Addr) (h : Heap), YP w h → (K w.params).In h → h.Ns mainGlobals mg → mg d.name = some (.ref fa) → AtT l.prog w (K w.params) k x tx sem mg fa h)
    (hsem : ∀ (ns : List Int) (R : D → Cells → Prop), ns.length ≤ 63 → (∀ cs, R (.bl true) cs) → sem [.slst (ns.map D.int)] (put (fun _ => none) 0 (.tab tx tq)) R) :
    PySem.W.WalkO q loose XP YP l.row.toRowW d [] (fun f vs => PySem.call f vs) := by
  refine Att.attach_call hn hdf fun w s0 s1 mg mb fa o pm cd doc a vs ns G Y ho hd hcd hmg hobj hints hlen hg => ?_
  obtain ⟨fd, c, T, e1, e2, e3, e4, hb, hF⟩ := (F w mg fa _ Y (hY w _ Y) G.T.g hmg).ex
  exact law_goT (hY w _ Y) G.T.g G.T.b G.T.builtins G.T.nolimit hg e1 e2 (PySem.W.codeHd_of_K (hY w _ Y) e3) e4 G.T.bmain hobj hints (Nat.le_trans hlen (by decide)) hr hF hb fun R h => hsem ns R hlen h
end DL

/-! == of a text and a dict; == of a tuple and a tuple of one text, up to the first part -/
namespace DL
open L2 PySem PyProof.Rows PySem.SeqAt PySem.MeetsSeq
theorem dict_no_str (l : Addr) (es : Array DictEntry) (n : Nat) (b : Str) (u : Tok) :
    Meets (Builtin.«dict.__eq__» ⟨[.ref l, .str b u], []⟩) (fun _ R s => s.heap.get? l = some { cls := .type "dict", data := .dict es n } ∧ R (.ok (.ret .notImplemented)) s) := by
  refine .of_wp fun prog w A R s h => ?_
  obtain ⟨hp, g, d, tk, os⟩ := s
  obtain ⟨hl, h⟩ := h
  have f1 := F.sub_str_dict
  wp_walk using wpAny_loadPart' hl, wpAny_load hl
  exact ⟨_, rfl, h⟩
theorem str_no_dict (l : Addr) (es : Array DictEntry) (n : Nat) (b : Str) (u : Tok) :
    Meets (Builtin.«str.__eq__» ⟨[.str b u, .ref l], []⟩) (fun _ R s => s.heap.get? l = some { cls := .type "dict", data := .dict es n } ∧ R (.ok (.ret .notImplemented)) s) := by
  refine .of_wp fun prog w A R s h => ?_
  obtain ⟨hp, g, d, tk, os⟩ := s
  obtain ⟨hl, h⟩ := h
  wp_walk using wpAny_loadPart' hl, wpAny_load hl
  exact ⟨_, rfl, h⟩
theorem rc_str_dict {A : Around} {s : Shared} {l : Addr} {es : Array DictEntry} {n : Nat} (b : Str) (u : Tok) (ho : s.heap.get? l = some { cls := .type "dict", data := .dict es n }) (hu : A.units < cLine) : RcAt A s (.str b u) (.ref l) false := by
  intro prog w E Q h
  refine rc_eq_decline_or (k := false) (typeIs_str s b u) ⟨_, ho, rfl⟩ (by decide) F.sub_dict_str F.slot_str_eq F.slot_dict_eq_refl ?_ ?_ (fun Q' hq => wpAny_of_eq (rfl : isSame (.str b u) (.ref l) = pure false) hq) (.inr hu) h
  · exact fun Q' hq => call_meets F.slot_str_eq (typeIs_str s b u) F.entry_str_eq (F.args_str_eq_2 _ _) (str_no_dict l es n b u) ⟨ho, hq⟩
  · exact fun Q' hq => call_meets F.slot_dict_eq_refl ⟨_, ho, rfl⟩ F.entry_dict_eq (F.args_dict_eq_2 _ _) (dict_no_str l es n b u) ⟨ho, hq⟩
/-- text == dict; tuple that begins with a text == tuple of one text -/
def rEqW (K : PySem.W.Frag) : R2 := fun x y H Q => (∃ (t : Str) (a : Addr) (od : Obj) (xs : List (Key × V)), x = .str t ∧ y = .ref a ∧ H a = some (.frz od (.dK xs)) ∧ Q (.bl false) H) ∨
  ∃ (a b : Addr) (s t : Str) (xs : List V), x = .ref a ∧ y = .ref b ∧ SqT K H a (.str s :: xs) ∧ SqT K H b [.str t] ∧ Q (.bl (decide (s = t) && xs.isEmpty)) H
theorem op_eqW {X : Cx} (hu : X.A.units + 64 < cLine) : OpR X (compareOp .Eq) (rEqW X.K) := by
  intro pins s σ H x y v u Q I rx ry h
  rcases h with ⟨t, a, od, xs, rfl, rfl, ha, q⟩ | ⟨a, b, z, t, xs, rfl, rfl, ha, hb, q⟩
  · obtain rfl : u = Value.ref a := ry
    obtain ⟨tk, rfl⟩ : ∃ tk, v = Value.str t tk := rx
    obtain ⟨_, ya, va, ra, o, es, ep, ho, hx, hd, _⟩ := dk_rd I.hok (.inr ⟨_, ha⟩)
    obtain ⟨oc, odd, dat, sl⟩ := o
    obtain ⟨h1, h2, h3⟩ := hx
    simp only at h1 h2 h3 hd
    subst h1 h2 h3 hd
    exact rc_str_dict t tk ho (by omega) _ _ _ _ ⟨.bl _, H, I, rfl, q⟩
  · obtain rfl : v = Value.ref a := rx
    obtain rfl : u = Value.ref b := ry
    obtain ⟨vi, f1, f2, _⟩ := I.tuple ha
    obtain ⟨ui, g1, g2, _⟩ := I.tuple hb
    cases f1 with
    | cons r1 f1 =>
      rename_i v1 vs1
      cases g1 with
      | cons r2 g1 =>
        rename_i u1 us1
        cases g1
        obtain ⟨t1, rfl⟩ : ∃ tk, v1 = Value.str z tk := r1
        obtain ⟨t2, rfl⟩ : ∃ tk, u1 = Value.str t tk := r2
        refine RcAt.tuples (e := fun _ => z == t) f2 g2 (by omega) (fun j k1 k2 => ?_) _ _ _ _ ?_
        · have j0 : j = 0 := by
            have : j < 1 := by simpa using k2
            omega
          subst j0
          exact EqAt.str_str z t1 t t2
        · have e : ((List.range (min (Value.str z t1 :: vs1).toArray.size [Value.str t t2].toArray.size)).all (fun _ => z == t) && (Value.str z t1 :: vs1).toArray.size == [Value.str t t2].toArray.size) = (decide (z = t) && xs.isEmpty) := by
            have l := f1.length
            rw [List.size_toArray, List.size_toArray, List.length_cons, List.length_singleton, Nat.min_eq_right (by omega)]
            have e1 : (z == t) = decide (z = t) := by
              by_cases h : z = t
              · rw [h]; simp
              · simp [h]
            rw [e1]
            have e2 : (vs1.length + 1 == 1) = xs.isEmpty := by
              cases xs with
              | nil => rw [← l]; rfl
              | cons w ws => rw [← l]; rfl
            rw [e2]
            cases decide (z = t) <;> rfl
          rw [e]
          exact ⟨.bl _, H, I, rfl, q⟩
def dEqW : DF := fun x y c R => match x, y with
  | .str _, .dic _ => R (.bl false) c
  | .tup (.str a :: xs), .tup [.str b] => R (.bl (decide (a = b) && xs.isEmpty)) c
  | x, y => dEq x y c R
theorem opD_eqW {K : PySem.W.Frag} : OpD K (fun x y H Q => (rEq x y H Q ∨ rEqD K x y H Q) ∨ rEqW K x y H Q) dEqW := by
  intro as H0 H σ c v1 v2 d1 d2 R Q ok r1 r2 h k
  unfold dEqW at h
  split at h
  · cases r1
    cases r2 with
    | dic g1 g2 => exact .inr (.inl ⟨_, _, _, _, rfl, rfl, ok.c.ex _ _ g1, k _ _ _ _ _ _ .refl ok (.bl _) h⟩)
  · cases r1 with
    | tup g1 g2 =>
      cases g2 with
      | cons a1 a2 =>
        cases a1
        cases r2 with
        | tup g3 g4 =>
          cases g4 with
          | cons b1 b2 =>
            cases b1
            cases b2
            refine .inr (.inr ⟨_, _, _, _, _, rfl, rfl, seqT_mono ok.c.ex g1, seqT_mono ok.c.ex g3, ?_⟩)
            rw [isE_len a2.length]
            exact k _ _ _ _ _ _ .refl ok (.bl _) h
  · exact .inl (opD_eq as H0 H σ c v1 v2 d1 d2 R Q ok r1 r2 h k)
end DL

/-! x in a list that changes -/
namespace DL
open L2 PySem PyProof.Rows
def dInLN (neg : Bool) : DF := fun x y c R => onCel y fun k => ∃ ds, c.cs k = some (.lst ds) ∧ flatD x = true ∧ ds.all flatD = true ∧ R (.bl (if neg then !(ds.any fun d => eqF d x) else ds.any fun d => eqF d x)) c
def dInL : DF := dInLN false
theorem opD_inL {K : PySem.W.Frag} {neg : Bool} : OpD K (rIn K neg) (dInLN neg) := by
  intro as H0 H σ c v1 v2 d1 d2 R Q ok r1 r2 h k
  obtain ⟨i, rfl, ds, h1, h2, h3, h4⟩ := onCel_of h
  obtain ⟨p, vs, rfl, _, g3, g4⟩ := cell_lst ok r2 h1
  exact ⟨p, vs, rfl, .inl (SqL.of g3), flat_rp r1 h2, flats_rp g4 h3, by rw [inV_rp r1 h2 g4 h3]; exact k _ _ _ _ _ _ .refl ok (.bl _) h4⟩
theorem pd_inL {X : Cx} {a b : Expr} {da db : DE} {pos : Pos} (ha : PD X a da) (hb : PD X b db) (hm : behindInMarks .In b = false) : PD X (.Compare a [.In] [b] pos) (dBin dInL da db) := pd_cmp op_in_seq opD_inL ha hb hm
end DL
namespace My
open PySem DL
local macro_rules | `(tactic| k_search $t) => `(tactic| simp only [$t:term, sNext, sSeq, sAsg, sRet, sRetN, sDrop, e_if, sBreak, sCont, sAsgG, e_par, gNm, e_set, e_setC, gList, dVar, dC, dBin, e_int2, e_add_ii, e_add_ib, e_add_ss, e_add_ll, e_add_tt, dSub, dMul, dDiv, dMod, dPow, dShl, dShr, dAnd, dOr, dXor, e_neg, dLt, dLe, dGt, dGe, e_eq_ii, e_eq_bb, e_eq_ss, e_ne_ii, e_ne_bb, e_ne_ss, e_eq_l, e_eq_sl, e_eq_t, e_eq_n, e_ne_l, e_ne_sl, e_ne_t, e_ne_n, e_chain, dTru, e_tb, e_tru_n, e_tru_b, e_tru_i, e_tru_l, e_tru_sl, e_tru_t, e_tru_d, e_andT, e_orT, dNotT, e_andV, e_orV, dNotV, e_ifE, onB_t, onB_f, onB_dec, onB_ndec, onB_not, onI_i, dNil, dCons, dTup, dLst, dLstC, dCall, dFn, dFnK, e_abs, e_max, e_min, e_int_i, e_int_b, e_len_l, e_len_sl, e_len_t, e_len_d, e_len_s, e_len_c, e_sum_l, e_ix_l, e_ix_sl, e_ix_t, e_ix_c, e_ix_s, e_ix_di, e_ix_ds, dSl, e_sl_l, e_sl_sl, e_sl_t, e_sl_s, dNoPart, e_part, iSeq, iTp, e_rng1, iRng2, sFor, sWhile, dDNew, dIsN, dIsNotN, isNon, env0,
  List.map_cons, List.map_nil, List.length_cons, List.length_nil, List.replicate, List.cons_append, List.nil_append, List.append_nil, Nat.sub_self, Nat.reduceSub, Nat.reduceAdd, List.getElem?_cons_zero, List.getElem?_cons_succ, List.set_cons_zero, List.set_cons_succ, Option.some.injEq, Co.lst.injEq, exists_eq_left', exists_eq_left, exists_and_left, List.cons.injEq, decide_eq_true_eq, true_and, and_true, decide_true, decide_false, if_true, if_false, Bool.false_eq_true, Bool.not_true, Bool.not_false, listD, intsOf_map, put_same, put_put, at0, at1, at2, at3, at4, at5, ix20, ix21])
local macro_rules | `(tactic| walk_at "dl") => `(tactic| k_search put_same)
theorem ble {a b : Nat} (h : Nat.ble a b = true) : a ≤ b := Nat.le_of_ble_eq_true h
theorem cmul_of {i j : Int} (h : (-(2 ^ 64) < i ∧ i < 2 ^ 64) ∨ (-(2 ^ 64) < j ∧ j < 2 ^ 64)) : L2.CMul i j := h
theorem iteT' {p : Prop} [Decidable p] {A B : Prop} (z : p) (h : A) : if p then A else B := by rw [if_pos z]; exact h
theorem iteF' {p : Prop} [Decidable p] {A B : Prop} (z : ¬ p) (h : B) : if p then A else B := by rw [if_neg z]; exact h
theorem ite_both {p : Prop} [Decidable p] {A B : Prop} (h : p → A) (h' : ¬ p → B) : if p then A else B := by
  by_cases q : p
  · rw [if_pos q]; exact h q
  · rw [if_neg q]; exact h' q
theorem at_all {xs : List D} {P : D → Prop} {r : Int} (h0 : 0 ≤ r) (h1 : r < xs.length) (h : ∀ d ∈ xs, P d) : ∃ d, L2.atI xs r = some d ∧ P d :=
  let ⟨x, e, m⟩ := at_in (xs := xs) h0 h1
  ⟨x, e, h x m⟩
/-! ### the pool of draws -/
def Pool (cs : Cells) (j : Nat) : Prop := ∃ a b, cs j = some (.lst [.int a, .int b]) ∧ 0 ≤ a ∧ 0 ≤ b ∧ b < 2147483647
/-- all but j is as it was -/
def But (j : Nat) (cs cs' : Cells) : Prop := ∀ i, i ≠ j → cs' i = cs i
theorem But.put {j : Nat} {cs : Cells} {o : Co} : But j cs (put cs j o) := fun i h => put_ne h
theorem But.refl {j : Nat} {cs : Cells} : But j cs cs := fun i h => rfl
theorem But.trans {j : Nat} {cs cs1 cs2 : Cells} (a : But j cs cs1) (b : But j cs1 cs2) : But j cs cs2 := fun i h => (b i h).trans (a i h)
/-- a draw: any number below n -/
def Draw (j : Nat) (n : Int) (cs : Cells) (Q : Int → Cells → Prop) : Prop := ∀ r cs', 0 ≤ r → r < n → Pool cs' j → But j cs cs' → Q r cs'
def sem_l_take : Sem := fun ds cs R => match ds with
  | [.cel j, .int n] => (0 < n ∧ n < 2 ^ 200) ∧ Pool cs j ∧ Draw j n cs fun r cs' => R (.int r) cs'
  | _ => False
theorem len_l_take : ∀ ds cs R, sem_l_take ds cs R → ds.length = 2 := by intro ds cs R h; unfold sem_l_take at h; split at h; rfl; exact h.elim
/-- _law_take: slots 0=_law_pool_here 1=_law_many 2=_law_found -/
def den_l_take : DS :=
  (sSeq (sIf (dTB (dBin dGt (dBin dIxF (dVar 0) (dC (.int 0))) (dC (.int 0)))) (sSeq (sAsg (dBin dMod (dBin dIxF (dVar 0) (dC (.int 0))) (dVar 1)) 2)
    (sSeq (sAsgG (dBin dDiv (dBin dIxF (dVar 0) (dC (.int 0))) (dVar 1)) (gIx (dVar 0) (dC (.int 0))))
    (sRet (dVar 2)))) sNext)
    (sSeq (sAsgG (dBin dMod (dBin dAdd (dBin dMul (dBin dIxF (dVar 0) (dC (.int 1))) (dC (.int 48271))) (dC (.int 11))) (dC (.int 2147483647))) (gIx (dVar 0) (dC (.int 1))))
    (sRet (dBin dMod (dBin dDiv (dBin dMod (dBin dMul (dBin dIxF (dVar 0) (dC (.int 1))) (dBin dIxF (dVar 0) (dC (.int 1)))) (dC (.int 2147483629))) (dC (.int 16))) (dVar 1)))))
theorem okd_l_take : ∀ ds cs R, sem_l_take ds cs R → den_l_take { nx := fun c => R .non c.cs, rt := R } ⟨env0 3 ds, cs⟩ := by
  intro ds cs R h
  unfold sem_l_take at h
  split at h
  case h_2 => exact h.elim
  rename_i j n
  obtain ⟨⟨h1, h2⟩, ⟨a, b, hp, ha, hb, hb2⟩, k⟩ := h
  unfold den_l_take
  by_cases h : 0 < a
  · k_search hp
    rw [if_pos h]
    refine ⟨h1, ⟨h1, h2⟩, k _ _ (Int.emod_nonneg _ (by omega)) (Int.emod_lt_of_pos _ h1) ⟨a / n, b, put_same, Int.ediv_nonneg ha (by omega), hb, hb2⟩ But.put⟩
  · k_search hp
    rw [if_neg h]
    have g0 := Int.emod_nonneg (b * 48271 + 11) (show (2147483647 : Int) ≠ 0 by decide)
    have g1 := Int.emod_lt_of_pos (b * 48271 + 11) (show (0 : Int) < 2147483647 by decide)
    refine ⟨cmul_of (by omega), by decide, cmul_of (by omega), by decide, by decide, h1, k _ _ (Int.emod_nonneg _ (by omega)) (Int.emod_lt_of_pos _ h1) ⟨a, _, put_same, ha, g0, g1⟩ But.put⟩
/-- the script's ints in hand, a cell's number: a pool -/
def sem_l_pool : Sem := fun ds cs R => ∃ (ns : List Int) (k : Int), ds = [.slst (ns.map .int), .int k] ∧ (0 ≤ k ∧ k < 64) ∧ ns.length ≤ 63 ∧ ∀ j cs', cs j = none → Pool cs' j → But j cs cs' → R (.cel j) cs'
theorem len_l_pool : ∀ ds cs R, sem_l_pool ds cs R → ds.length = 2 := by rintro ds cs R ⟨j, n, rfl, _⟩; rfl
def if_l_pool_1 : DS :=
  (sIf (dTB (dBin dLt (dVar 1) (dCall fLen (dCons (dVar 0) dNil)))) (sAsg (dBin dIxF (dVar 0) (dVar 1)) 2) sNext)
/-- _law_pool: slots 0=_law_script 1=_law_k 2=_law_cell 3=_law_great 4=_law_mixed -/
def den_l_pool : DS :=
  (sSeq (sAsg (dBin dAdd (dBin dMul (dC (.int 7)) (dCall fSum (dCons (dSl (dVar 0) dNoPart (dPart (dC (.int 63)))) dNil))) (dVar 1)) 2)
    (sSeq if_l_pool_1
    (sSeq (sAsg (dCall fAbs (dCons (dVar 2) dNil)) 3)
    (sSeq (sAsg (dBin dMod (dBin dMul (dBin dAdd (dBin dAdd (dBin dAdd (dBin dMod (dVar 3) (dC (.int 2147483629))) (dBin dMul (dBin dMul (dC (.int 7919)) (dVar 1)) (dVar 1))) (dBin dMul (dC (.int 31)) (dVar 1))) (dC (.int 17))) (dC (.int 48271))) (dC (.int 2147483647))) 4)
    (sRet (dLstC (dCons (dBin dMul (dVar 3) (dCall fInt (dCons (dBin dGe (dVar 3) (dBin dPow (dC (.int 10)) (dC (.int 18)))) dNil))) (dCons (dBin dMod (dBin dMul (dVar 4) (dVar 4)) (dC (.int 2147483629))) dNil))))))))
theorem cutD_map (ns : List Int) (lo hi : Option Int) : ∃ ms : List Int, cutD (ns.map D.int) lo hi = ms.map D.int := by
  unfold cutD
  rw [← List.map_drop, ← List.map_take]
  exact ⟨_, rfl⟩
theorem at_map {ns : List Int} {k : Int} (h0 : 0 ≤ k) (h1 : k < ns.length) : ∃ v, L2.atI (ns.map D.int) k = some (.int v) := by
  obtain ⟨x, e, hx⟩ := at_in (xs := ns.map D.int) h0 (by rw [List.length_map]; exact h1)
  obtain ⟨v, _, rfl⟩ := List.mem_map.mp hx
  exact ⟨v, e⟩
theorem okd_l_pool : ∀ ds cs R, sem_l_pool ds cs R → den_l_pool { nx := fun c => R .non c.cs, rt := R } ⟨env0 5 ds, cs⟩ := by
  rintro ds cs R ⟨ns, k, rfl, ⟨h0, h1⟩, hl, q⟩
  unfold den_l_pool
  obtain ⟨ms, em⟩ := cutD_map ns none (some 63)
  have fin : ∀ v : Int, ∀ j, cs j = none → R (.cel j) (put cs j (.lst [.int ((if v < 0 then -v else v) * (if 10 ^ (18 : Int).toNat ≤ (if v < 0 then -v else v) then 1 else 0)),
      .int (((if v < 0 then -v else v) % 2147483629 + 7919 * k * k + 31 * k + 17) * 48271 % 2147483647 * (((if v < 0 then -v else v) % 2147483629 + 7919 * k * k + 31 * k + 17) * 48271 % 2147483647) % 2147483629)])) := by
    intro v j hj
    refine q j _ hj ⟨_, _, put_same, ?_, Int.emod_nonneg _ (by decide), Int.lt_trans (Int.emod_lt_of_pos _ (by decide)) (by decide)⟩ But.put
    refine Int.mul_nonneg (by split <;> omega) ?_
    generalize (if v < 0 then -v else v) = u
    split <;> decide
  have bits : ∀ v : Int, L2.CMul v (if 10 ^ (18 : Int).toNat ≤ v then 1 else 0) := fun v => cmul_of (.inr (by split <;> decide))
  have sq : ∀ v : Int, L2.CMul (v % 2147483647) (v % 2147483647) := fun v => by
    have g0 := Int.emod_nonneg v (show (2147483647 : Int) ≠ 0 by decide)
    have g1 := Int.emod_lt_of_pos v (show (0 : Int) < 2147483647 by decide)
    exact cmul_of (by omega)
  unfold if_l_pool_1
  by_cases hk : k < ns.length
  · k_search em
    obtain ⟨v, ev⟩ := at_map (ns := ns) h0 hk
    k_search (List.length_map (as := ns) D.int)
    k_search hk
    k_search ev
    exact ⟨cmul_of (by omega), by decide, cmul_of (by omega), cmul_of (by omega), cmul_of (by omega), cmul_of (by omega), by decide, ⟨by decide, by decide, by decide⟩, bits _, sq _, by decide, by decide, fin v⟩
  · k_search em
    k_search (List.length_map (as := ns) D.int)
    k_search hk
    exact ⟨cmul_of (by omega), by decide, cmul_of (by omega), cmul_of (by omega), cmul_of (by omega), cmul_of (by omega), by decide, ⟨by decide, by decide, by decide⟩, bits _, sq _, by decide, by decide, fin _⟩
/-! ### what is asked of things of any kind -/
def kindly (d : D) : Prop := (tyN d).isSome = true
def wholeD : D → Bool | .int _ => true | _ => false
def isInt : D → Bool | .int _ => true | .bl _ => true | _ => false
def isBool : D → Bool | .bl _ => true | _ => false
def isTup : D → Bool | .tup _ => true | _ => false
def isLst : D → Bool | .lst _ => true | .slst _ => true | _ => false
def isStr : D → Bool | .str _ => true | _ => false
theorem isi_of {n t : String} {b : Bool} {d : D} {c : Z} {R : D → Z → Prop} (h1 : tyN d = some t) (h2 : L2.kitB t n = some b) : fIsi n [d, .ty n] c R = R (.bl b) c :=
  propext ⟨fun ⟨_, t', b', e1, e2, q⟩ => by
    rw [h1] at e1
    cases e1
    rw [h2] at e2
    cases e2
    exact q, fun q => ⟨rfl, _, _, h1, h2, q⟩⟩
theorem isi_int {d : D} {c : Z} {R : D → Z → Prop} (h : kindly d) : fIsi "int" [d, .ty "int"] c R = R (.bl (isInt d)) c := by
  match d, h with
  | .non, _ => exact isi_of rfl (by decide +kernel)
  | .bl b, _ => exact isi_of (t := "bool") (b := isInt (.bl true)) rfl (by decide +kernel)
  | .int b, _ => exact isi_of (t := "int") (b := isInt (.int 0)) rfl (by decide +kernel)
  | .str b, _ => exact isi_of (t := "str") (b := isInt (.str "")) rfl (by decide +kernel)
  | .lst b, _ => exact isi_of (t := "list") (b := isInt (.lst [])) rfl (by decide +kernel)
  | .slst b, _ => exact isi_of (t := "list") (b := isInt (.slst [])) rfl (by decide +kernel)
  | .tup b, _ => exact isi_of (t := "tuple") (b := isInt (.tup [])) rfl (by decide +kernel)
  | .dic b, _ => exact isi_of (t := "dict") (b := isInt (.dic [])) rfl (by decide +kernel)
theorem isi_bool {d : D} {c : Z} {R : D → Z → Prop} (h : kindly d) : fIsi "bool" [d, .ty "bool"] c R = R (.bl (isBool d)) c := by
  match d, h with
  | .non, _ => exact isi_of rfl (by decide +kernel)
  | .bl b, _ => exact isi_of (t := "bool") (b := isBool (.bl true)) rfl (by decide +kernel)
  | .int b, _ => exact isi_of (t := "int") (b := isBool (.int 0)) rfl (by decide +kernel)
  | .str b, _ => exact isi_of (t := "str") (b := isBool (.str "")) rfl (by decide +kernel)
  | .lst b, _ => exact isi_of (t := "list") (b := isBool (.lst [])) rfl (by decide +kernel)
  | .slst b, _ => exact isi_of (t := "list") (b := isBool (.slst [])) rfl (by decide +kernel)
  | .tup b, _ => exact isi_of (t := "tuple") (b := isBool (.tup [])) rfl (by decide +kernel)
  | .dic b, _ => exact isi_of (t := "dict") (b := isBool (.dic [])) rfl (by decide +kernel)
theorem isi_tuple {d : D} {c : Z} {R : D → Z → Prop} (h : kindly d) : fIsi "tuple" [d, .ty "tuple"] c R = R (.bl (isTup d)) c := by
  match d, h with
  | .non, _ => exact isi_of rfl (by decide +kernel)
  | .bl b, _ => exact isi_of (t := "bool") (b := isTup (.bl true)) rfl (by decide +kernel)
  | .int b, _ => exact isi_of (t := "int") (b := isTup (.int 0)) rfl (by decide +kernel)
  | .str b, _ => exact isi_of (t := "str") (b := isTup (.str "")) rfl (by decide +kernel)
  | .lst b, _ => exact isi_of (t := "list") (b := isTup (.lst [])) rfl (by decide +kernel)
  | .slst b, _ => exact isi_of (t := "list") (b := isTup (.slst [])) rfl (by decide +kernel)
  | .tup b, _ => exact isi_of (t := "tuple") (b := isTup (.tup [])) rfl (by decide +kernel)
  | .dic b, _ => exact isi_of (t := "dict") (b := isTup (.dic [])) rfl (by decide +kernel)
theorem isi_list {d : D} {c : Z} {R : D → Z → Prop} (h : kindly d) : fIsi "list" [d, .ty "list"] c R = R (.bl (isLst d)) c := by
  match d, h with
  | .non, _ => exact isi_of rfl (by decide +kernel)
  | .bl b, _ => exact isi_of (t := "bool") (b := isLst (.bl true)) rfl (by decide +kernel)
  | .int b, _ => exact isi_of (t := "int") (b := isLst (.int 0)) rfl (by decide +kernel)
  | .str b, _ => exact isi_of (t := "str") (b := isLst (.str "")) rfl (by decide +kernel)
  | .lst b, _ => exact isi_of (t := "list") (b := isLst (.lst [])) rfl (by decide +kernel)
  | .slst b, _ => exact isi_of (t := "list") (b := isLst (.slst [])) rfl (by decide +kernel)
  | .tup b, _ => exact isi_of (t := "tuple") (b := isLst (.tup [])) rfl (by decide +kernel)
  | .dic b, _ => exact isi_of (t := "dict") (b := isLst (.dic [])) rfl (by decide +kernel)
theorem isi_str {d : D} {c : Z} {R : D → Z → Prop} (h : kindly d) : fIsi "str" [d, .ty "str"] c R = R (.bl (isStr d)) c := by
  match d, h with
  | .non, _ => exact isi_of rfl (by decide +kernel)
  | .bl b, _ => exact isi_of (t := "bool") (b := isStr (.bl true)) rfl (by decide +kernel)
  | .int b, _ => exact isi_of (t := "int") (b := isStr (.int 0)) rfl (by decide +kernel)
  | .str b, _ => exact isi_of (t := "str") (b := isStr (.str "")) rfl (by decide +kernel)
  | .lst b, _ => exact isi_of (t := "list") (b := isStr (.lst [])) rfl (by decide +kernel)
  | .slst b, _ => exact isi_of (t := "list") (b := isStr (.slst [])) rfl (by decide +kernel)
  | .tup b, _ => exact isi_of (t := "tuple") (b := isStr (.tup [])) rfl (by decide +kernel)
  | .dic b, _ => exact isi_of (t := "dict") (b := isStr (.dic [])) rfl (by decide +kernel)
/-- whole: an int, no truth -/
theorem whole_by {i : Nat} {d : D} {c : Z} {R : D → Z → Prop} (h : kindly d) (e : c.env[i]? = some (some d)) (q : R (.bl (wholeD d)) c) :
    dAndV (dCall (fIsi "int") (dCons (dVar i) (dCons (dC (.ty "int")) dNil))) (dNotV (dCall (fIsi "bool") (dCons (dVar i) (dCons (dC (.ty "bool")) dNil)))) c R := by
  k_search e
  rw [isi_int h]
  match d, h with
  | .int i, h =>
    k_search isInt
    k_search e
    rw [isi_bool h]
    exact ⟨_, rfl, q⟩
  | .bl i, h =>
    k_search isInt
    k_search e
    rw [isi_bool h]
    exact ⟨_, rfl, q⟩
  | .non, _ => exact q
  | .str b, _ => exact q
  | .lst b, _ => exact q
  | .slst b, _ => exact q
  | .tup b, _ => exact q
  | .dic b, _ => exact q
/-! ### widths, worths -/
/-- the number that a width doubles to -/
abbrev pw (i : Int) : Int := 2 ^ i.toNat
theorem cpow_one {i : Int} (h0 : 0 ≤ i) (h : i ≤ 1000000) : L2.CPow 1 i := ⟨h0, h, by decide⟩
def sem_p_is_whole : Sem := fun ds cs R => match ds with
  | [d] => kindly d ∧ R (.bl (wholeD d)) cs
  | _ => False
theorem len_p_is_whole : ∀ ds cs R, sem_p_is_whole ds cs R → ds.length = 1 := by intro ds cs R h; unfold sem_p_is_whole at h; split at h; rfl; exact h.elim
def ex_p_is_whole_1 : DE :=
  (dAndV (dCall (fIsi "int") (dCons (dVar 0) (dCons (dC (.ty "int")) dNil))) (dNotV (dCall (fIsi "bool") (dCons (dVar 0) (dCons (dC (.ty "bool")) dNil)))))
/-- is_whole: slots 0=thing -/
def den_p_is_whole : DS :=
  (sRet ex_p_is_whole_1)
theorem okd_p_is_whole : ∀ ds cs R, sem_p_is_whole ds cs R → den_p_is_whole { nx := fun c => R .non c.cs, rt := R } ⟨env0 1 ds, cs⟩ := by
  intro ds cs R h
  unfold sem_p_is_whole at h
  split at h
  case h_2 => exact h.elim
  obtain ⟨h, q⟩ := h
  exact whole_by (i := 0) h rfl q
def worthD (n : Int) : D → Bool | .int i => decide (0 ≤ i) && decide (i < pw n) | _ => false
def sem_p_is_worth : Sem := fun ds cs R => match ds with
  | [d, .int n] => kindly d ∧ (0 ≤ n ∧ n ≤ 64) ∧ R (.bl (worthD n d)) cs
  | _ => False
theorem len_p_is_worth : ∀ ds cs R, sem_p_is_worth ds cs R → ds.length = 2 := by intro ds cs R h; unfold sem_p_is_worth at h; split at h; rfl; exact h.elim
def ex_p_is_worth_1 : DE :=
  (dChain dLe dLt (dC (.int 0)) (dVar 0) (dBin dShl (dC (.int 1)) (dVar 1)))
def ex_p_is_worth_2 : DE :=
  (dAndV (dFn 1 sem_p_is_whole (fun ds _ => ds) (dCons (dVar 0) dNil)) ex_p_is_worth_1)
/-- is_worth: slots 0=thing 1=wide -/
def den_p_is_worth : DS :=
  (sRet ex_p_is_worth_2)
theorem okd_p_is_worth : ∀ ds cs R, sem_p_is_worth ds cs R → den_p_is_worth { nx := fun c => R .non c.cs, rt := R } ⟨env0 2 ds, cs⟩ := by
  intro ds cs R h
  unfold sem_p_is_worth at h
  split at h
  case h_2 => exact h.elim
  obtain ⟨h, ⟨h0, h1⟩, q⟩ := h
  unfold den_p_is_worth ex_p_is_worth_2 ex_p_is_worth_1
  k_search sem_p_is_whole
  refine ⟨h, ?_⟩
  rename_i d n
  match d, h with
  | .int i, _ =>
    have q' : R (.bl (decide (0 ≤ i) && decide (i < pw n))) cs := q
    by_cases z : 0 ≤ i
    · k_search wholeD
      k_search z
      rw [decide_eq_true z, Bool.true_and] at q'
      rw [Int.one_mul]
      exact ⟨cpow_one h0 (by omega), q'⟩
    · k_search wholeD
      k_search z
      rw [decide_eq_false z] at q'
      exact q'
  | .bl _, _ => exact q
  | .non, _ => exact q
  | .str b, _ => exact q
  | .lst b, _ => exact q
  | .slst b, _ => exact q
  | .tup b, _ => exact q
  | .dic b, _ => exact q
local macro_rules | `(tactic| k_search $t) => `(tactic| simp only [$t:term, sNext, sSeq, sAsg, sRet, sRetN, sDrop, e_if, sBreak, sCont, sAsgG, e_par, e_par3, gNm, e_set, e_setC, gList, dVar, dC, dBin, e_int2, e_add_ii, e_add_ib, e_add_ss, e_add_ll, e_add_tt, dSub, dMul, dDiv, dMod, dPow, dShl, dShr, dAnd, dOr, dXor, e_neg, dLt, dLe, dGt, dGe, e_eq_ii, e_eq_bb, e_eq_ss, e_ne_ii, e_ne_bb, e_ne_ss, e_eq_l, e_eq_sl, e_eq_t, e_eq_n, e_ne_l, e_ne_sl, e_ne_t, e_ne_n, e_chain, dTru, e_tb, e_tru_n, e_tru_b, e_tru_i, e_tru_l, e_tru_sl, e_tru_t, e_tru_d, e_andT, e_orT, dNotT, e_andV, e_orV, dNotV, e_ifE, onB_t, onB_f, onB_dec, onB_ndec, onB_not, onI_i, dNil, dCons, dTup, dLst, dLstC, dCall, dFn, dFnK, e_abs, e_max, e_min, e_int_i, e_int_b, e_len_l, e_len_sl, e_len_t, e_len_d, e_len_s, e_len_c, e_sum_l, e_ix_l, e_ix_sl, e_ix_t, e_ix_c, e_ix_s, e_ix_di, e_ix_ds, dSl, e_sl_l, e_sl_sl, e_sl_t, e_sl_s, dNoPart, e_part, iSeq, iTp, e_rng1, iRng2, sFor, sWhile, dDNew, dIsN, dIsNotN, isNon, env0,
  List.map_cons, List.map_nil, List.length_cons, List.length_nil, List.replicate, List.cons_append, List.nil_append, List.append_nil, Nat.sub_self, Nat.reduceSub, Nat.reduceAdd, List.getElem?_cons_zero, List.getElem?_cons_succ, List.set_cons_zero, List.set_cons_succ, Option.some.injEq, Co.lst.injEq, exists_eq_left', exists_eq_left, exists_and_left, List.cons.injEq, decide_eq_true_eq, true_and, and_true, decide_true, decide_false, if_true, if_false, Bool.false_eq_true, Bool.not_true, Bool.not_false, listD, intsOf_map, put_same, put_put, at0, at1, at2, at3, at4, at5, ix20, ix21, sizeLine_eq, Nat.reduceLeDiff, Int.reduceLT, Int.reduceLE, Int.reduceNeg, gt_iff_lt, ge_iff_le, Int.one_mul, wipeD, TgN.vs, List.foldr_cons, List.foldr_nil, tgSet, fStr_i, fReprD_d, e_gtp, onCel_c, onDic_d, onKey_i, onKey_s, dIxC, dInC, dNotInC, dInCN, dUpd, dFrz, dFrzD, e_isB, cellD_dic, cellD_fdic, dBits, dDNewC, Co.dic.injEq, exists_eq', eq_self, and_self, e_enum, e_zip])
local macro_rules | `(tactic| walk_at "dl") => `(tactic| k_search put_same)
local macro_rules | `(tactic| walk_at "nd") => `(tactic| (simp only [List.map_cons, List.map_nil, List.cons_append, List.nil_append, List.append_nil]; decide +kernel))
local macro_rules | `(tactic| walk_at "asm") => `(tactic| repeat (refine And.intro (by assumption) ?_))
/-! ### what may be shown -/
/-- data of so much depth -/
def Dt : Nat → D → Prop
  | _, .non => True
  | _, .bl _ => True
  | _, .int _ => True
  | _, .str s => PyData.strOk s = true
  | k + 1, .lst ds => ∀ e ∈ ds, Dt k e
  | k + 1, .slst ds => ∀ e ∈ ds, Dt k e
  | k + 1, .tup ds => ∀ e ∈ ds, Dt k e
  | _, _ => False
theorem Dt.kindly {k : Nat} {d : D} (h : Dt k d) : kindly d := by cases d <;> first | rfl | (cases k <;> exact h.elim)
theorem dt_all {k : Nat} (ih : ∀ d, Dt k d → plain d = true ∧ (py d).canLay0 = true ∧ (py d).depth ≤ k) : ∀ {ds : List D}, (∀ e ∈ ds, Dt k e) → plainA ds = true ∧ PyData.canLayAll0 (pyA ds) = true ∧ PyData.depthAll (pyA ds) ≤ k
  | [], _ => ⟨rfl, rfl, Nat.zero_le _⟩
  | d :: ds, h => by
    obtain ⟨a1, a2, a3⟩ := ih d (h d List.mem_cons_self)
    obtain ⟨b1, b2, b3⟩ := dt_all ih fun e he => h e (List.mem_cons_of_mem _ he)
    refine ⟨?_, ?_, ?_⟩
    · show (plain d && plainA ds) = true
      rw [a1, b1]; rfl
    · show (PyData.canLay0 (py d) && PyData.canLayAll0 (pyA ds)) = true
      rw [a2, b2]; rfl
    · show max (PyData.depth (py d)) (PyData.depthAll (pyA ds)) ≤ k
      omega
theorem Dt.ok : ∀ {k : Nat} (d : D), Dt k d → plain d = true ∧ (py d).canLay0 = true ∧ (py d).depth ≤ k
  | 0, d, h => by cases d <;> first | exact ⟨rfl, rfl, Nat.le_refl _⟩ | exact ⟨rfl, h, Nat.le_refl _⟩ | exact h.elim
  | k + 1, d, h => by
    cases d <;> first
      | exact ⟨rfl, rfl, Nat.zero_le _⟩
      | exact ⟨rfl, h, Nat.zero_le _⟩
      | exact h.elim
      | exact (let ⟨a, b, c⟩ := dt_all (k := k) (fun d => Dt.ok d) h; ⟨a, b, Nat.succ_le_succ c⟩)
/-- whichever of the two: how many turns -/
theorem turns {n : Nat} {w : Int} (hw : 1 ≤ w) : ∃ m : Int, (if (if w < (n : Int) then w else n) > 1 then (if w < (n : Int) then w else n) else 1) = m ∧ 0 ≤ m ∧ m ≤ w := by
  refine ⟨_, rfl, ?_⟩
  split <;> split <;> omega
/-! ### a word among words -/
/-! ### lists of draws -/
theorem Pool.other {cs cs' : Cells} {j : Nat} (h : Pool cs j) (e : cs' j = cs j) : Pool cs' j := by
  obtain ⟨a, b, h1, h2⟩ := h
  exact ⟨a, b, e.trans h1, h2⟩
theorem Pool.ne {cs : Cells} {j k : Nat} (h : Pool cs j) (hk : cs k = none) : j ≠ k := fun z => by
  obtain ⟨a, b, h1, _⟩ := h
  rw [z, hk] at h1; cases h1
theorem del_ne {cs : Cells} {k i : Nat} (h : i ≠ k) : del cs k i = cs i := if_neg h
/-! ### data of any kind -/
def NmOk (i : Int) : Prop := -(2 ^ 200) < i ∧ i < 2 ^ 200
def Kd : Nat → D → Prop
  | _, .non => True
  | _, .bl _ => True
  | _, .int i => NmOk i
  | _, .str s => ∀ c ∈ s.cps.toList, c < 16 ^ 8
  | k + 1, .lst ds => ∀ e ∈ ds, Kd k e
  | k + 1, .tup ds => ∀ e ∈ ds, Kd k e
  | _ + 1, .dic ks => ks = []
  | _, _ => False
theorem Kd.kindly {k : Nat} {d : D} (h : Kd k d) : kindly d := by cases d <;> first | rfl | (cases k <;> exact h.elim)
theorem Kd.up : ∀ {k m : Nat} {d : D}, Kd k d → k ≤ m → Kd m d := by
  intro k
  induction k with
  | zero => intro m d h _; cases d <;> first | (cases m <;> first | exact h | exact True.intro) | exact h.elim
  | succ k ih =>
    intro m d h hm
    cases m with
    | zero => exact absurd hm (Nat.not_succ_le_zero k)
    | succ m =>
      cases d <;> first
        | exact True.intro
        | exact h
        | exact h.elim
        | exact fun e he => ih (h e he) (Nat.le_of_succ_le_succ hm)
theorem kd_all {k : Nat} (ih : ∀ d, Kd k d → smallE d ∧ (pyE d).depth ≤ k) : ∀ {ds : List D}, (∀ e ∈ ds, Kd k e) → smallEA ds ∧ PyData.depthAll (pyEA ds) ≤ k
  | [], _ => ⟨True.intro, Nat.zero_le _⟩
  | d :: ds, h => by
    obtain ⟨a1, a2⟩ := ih d (h d List.mem_cons_self)
    obtain ⟨b1, b2⟩ := kd_all ih fun e he => h e (List.mem_cons_of_mem _ he)
    refine ⟨⟨a1, b1⟩, ?_⟩
    show max (PyData.depth (pyE d)) (PyData.depthAll (pyEA ds)) ≤ k
    omega
theorem Kd.ok : ∀ {k : Nat} (d : D), Kd k d → smallE d ∧ (pyE d).depth ≤ k
  | 0, d, h => by cases d <;> first | exact ⟨h, Nat.le_refl _⟩ | exact h.elim
  | k + 1, d, h => by
    cases d <;> first
      | exact ⟨h, Nat.zero_le _⟩
      | exact h.elim
      | exact (let ⟨a, b⟩ := kd_all (k := k) (fun d => Kd.ok d) h; ⟨a, Nat.succ_le_succ b⟩)
      | exact ⟨h, Nat.succ_le_succ (Nat.zero_le _)⟩
structure AD (k w : Nat) (d : D) : Prop where
  k : Kd k d
  w : wt d ≤ w
theorem AD.mono {k w k' w' : Nat} {d : D} (h : AD k w d) (hk : k ≤ k') (hw : w ≤ w') : AD k' w' d := ⟨h.k.up hk, Nat.le_trans h.w hw⟩
theorem wtA_le {m : Nat} : ∀ {ds : List D}, (∀ d ∈ ds, wt d ≤ m) → wtA ds ≤ ds.length * (m + 2)
  | [], _ => Nat.zero_le _
  | d :: ds, h => by
    have h1 := h d List.mem_cons_self
    have h2 := wtA_le fun e he => h e (List.mem_cons_of_mem _ he)
    show wt d + 2 + wtA ds ≤ (ds.length + 1) * (m + 2)
    have e : (ds.length + 1) * (m + 2) = ds.length * (m + 2) + (m + 2) := Nat.succ_mul _ _
    omega
theorem len_wtA : ∀ ds : List D, 2 * ds.length ≤ wtA ds
  | [] => Nat.zero_le _
  | d :: ds => by
    have := len_wtA ds
    show 2 * (ds.length + 1) ≤ wt d + 2 + wtA ds
    omega
theorem ad_tup {k w m w' : Nat} {ds : List D} (h : ∀ e ∈ ds, AD k w e) (hl : ds.length ≤ m) (hw : 3 + m * (w + 2) ≤ w') : AD (k + 1) w' (.tup ds) := by
  refine ⟨fun e he => (h e he).k, ?_⟩
  have := wtA_le fun e he => (h e he).w
  have : ds.length * (w + 2) ≤ m * (w + 2) := Nat.mul_le_mul_right _ hl
  show 3 + wtA ds ≤ w'
  omega
theorem ad_lst {k w m w' : Nat} {ds : List D} (h : ∀ e ∈ ds, AD k w e) (hl : ds.length ≤ m) (hw : 3 + m * (w + 2) ≤ w') : AD (k + 1) w' (.lst ds) := by
  refine ⟨fun e he => (h e he).k, ?_⟩
  have := wtA_le fun e he => (h e he).w
  have : ds.length * (w + 2) ≤ m * (w + 2) := Nat.mul_le_mul_right _ hl
  show 3 + wtA ds ≤ w'
  omega
theorem ad_int {i : Int} (h : NmOk i) : AD 0 400 (.int i) := ⟨h, Nat.le_refl _⟩
theorem ad_non : AD 0 400 .non := ⟨True.intro, by show 5 ≤ 400; decide⟩
theorem ad_dic : AD 1 400 (.dic []) := ⟨rfl, by show 5 ≤ 400; decide⟩
theorem ad_str {s : String} (h : (Nat.ble (Str.ofString s).length 20 && (Str.ofString s).cps.toList.all fun c => Nat.blt c (16 ^ 8)) = true := by decide +kernel) : AD 0 400 (.str (Str.ofString s)) := by
  rw [Bool.and_eq_true] at h
  refine ⟨fun c hc => Nat.le_of_ble_eq_true (List.all_eq_true.mp h.2 c hc), ?_⟩
  have := Nat.le_of_ble_eq_true h.1
  show 10 * (Str.ofString s).length + 2 ≤ 400
  omega
theorem rep_ad {k w : Nat} {d : D} {c : Z} {R : D → Z → Prop} (h : AD k w d) (hk : k < 60) (hw : w ≤ 16000000) (q : R (.str (pyE d).shown) c) : fReprE [d] c R := by
  obtain ⟨a, b⟩ := h.k.ok
  exact ⟨a, by omega, by have := h.w; rw [sizeLine_eq]; omega, q⟩
/-! ### data built of data -/
theorem ac {P : D → Prop} {a : D} {l : List D} (h : P a) (k : ∀ e ∈ l, P e) : ∀ e ∈ a :: l, P e := List.forall_mem_cons.mpr ⟨h, k⟩
theorem an {P : D → Prop} : ∀ e ∈ ([] : List D), P e := fun _ h => absurd h List.not_mem_nil
theorem ap {P : D → Prop} {l m : List D} (h : ∀ e ∈ l, P e) (k : ∀ e ∈ m, P e) : ∀ e ∈ l ++ m, P e := fun e he => (List.mem_append.mp he).elim (h e) (k e)
theorem t1 {ds : List D} (h : ∀ e ∈ ds, AD 0 400 e) (hl : ds.length ≤ 7) : AD 1 3000 (.tup ds) := ad_tup h hl (by decide)
theorem l1 {ds : List D} (h : ∀ e ∈ ds, AD 0 400 e) (hl : ds.length ≤ 7) : AD 1 3000 (.lst ds) := ad_lst h hl (by decide)
theorem t2 {ds : List D} (h : ∀ e ∈ ds, AD 1 3000 e) (hl : ds.length ≤ 3) : AD 2 10000 (.tup ds) := ad_tup h hl (by decide)
theorem l2 {ds : List D} (h : ∀ e ∈ ds, AD 1 3000 e) (hl : ds.length ≤ 3) : AD 2 10000 (.lst ds) := ad_lst h hl (by decide)
theorem t3 {ds : List D} (h : ∀ e ∈ ds, AD 2 10000 e) (hl : ds.length ≤ 18) : AD 3 190000 (.tup ds) := ad_tup h hl (by decide)
theorem l3 {ds : List D} (h : ∀ e ∈ ds, AD 2 10000 e) (hl : ds.length ≤ 18) : AD 3 190000 (.lst ds) := ad_lst h hl (by decide)
theorem l4 {ds : List D} (h : ∀ e ∈ ds, AD 3 190000 e) (hl : ds.length ≤ 6) : AD 4 1200000 (.lst ds) := ad_lst h hl (by decide)
theorem m01 {d : D} (h : AD 0 400 d) : AD 1 3000 d := h.mono (by decide) (by decide)
theorem m12 {d : D} (h : AD 1 3000 d) : AD 2 10000 d := h.mono (by decide) (by decide)
theorem m02 {d : D} (h : AD 0 400 d) : AD 2 10000 d := m12 (m01 h)
theorem cut_from {xs : List D} {n : Nat} : cutD xs (some (n : Int)) none = xs.drop n := by
  unfold cutD
  rw [HT.sIx_nat, HT.sIx_none]
  rcases Nat.le_total n xs.length with h | h
  · rw [Nat.min_eq_left h, List.take_of_length_le (by rw [List.length_drop]; exact Nat.le_refl _)]
  · rw [Nat.min_eq_right h, Nat.sub_self, List.take_zero, List.drop_eq_nil_of_le h]
/-! ### the small looks -/
def inB (a b : Int) : D → Bool | .int i => decide (a ≤ i) && decide (i ≤ b) | _ => false
theorem inB_no {a b : Int} {d : D} (h : wholeD d = false) : inB a b d = false := by cases d <;> first | rfl | cases h
theorem whole_is {d : D} (h : wholeD d = true) : ∃ i, d = .int i := by cases d <;> first | exact ⟨_, rfl⟩ | cases h
theorem dec_and {p q : Prop} [Decidable p] [Decidable q] {A : Bool → Prop} (h : A (decide p && decide q)) : if p then A (decide q) else A false := by
  by_cases z : p
  · rw [if_pos z]; rw [decide_eq_true z, Bool.true_and] at h; exact h
  · rw [if_neg z]; rw [decide_eq_false z, Bool.false_and] at h; exact h
theorem worth16 (d : D) : worthD 16 d = inB 0 65535 d := by
  cases d <;> first | rfl | skip
  rename_i i
  show (decide (0 ≤ i) && decide (i < pw 16)) = (decide (0 ≤ i) && decide (i ≤ 65535))
  have : pw 16 = 65536 := by decide
  rw [this]
  congr 1
  exact decide_eq_decide.mpr (by omega)
def sem_l_whole : Sem := fun ds cs R => ∃ d a b, ds = [d, .int a, .int b] ∧ kindly d ∧ R (.bl (inB a b d)) cs
theorem len_l_whole : ∀ ds cs R, sem_l_whole ds cs R → ds.length = 3 := by rintro ds cs R ⟨d, a, b, rfl, _⟩; rfl
def ex_l_whole_1 : DE :=
  (dChain dLe dLe (dVar 1) (dVar 0) (dVar 2))
def ex_l_whole_2 : DE :=
  (dAndV (dCall (fIsi "int") (dCons (dVar 0) (dCons (dC (.ty "int")) dNil))) (dAndV (dNotV (dCall (fIsi "bool") (dCons (dVar 0) (dCons (dC (.ty "bool")) dNil)))) ex_l_whole_1))
/-- _law_whole: slots 0=_law_thing 1=_law_least 2=_law_most -/
def den_l_whole : DS :=
  (sRet ex_l_whole_2)
theorem okd_l_whole : ∀ ds cs R, sem_l_whole ds cs R → den_l_whole { nx := fun c => R .non c.cs, rt := R } ⟨env0 3 ds, cs⟩ := by
  rintro ds cs R ⟨d, a, b, rfl, h, q⟩
  unfold den_l_whole ex_l_whole_2
  walk_at "dl"
  rw [isi_int h]
  match d, h with
  | .int i, h =>
    k_search isInt
    rw [isi_bool h]
    unfold ex_l_whole_1
    k_search isBool
    exact dec_and (A := fun b => R (.bl b) cs) q
  | .bl i, h =>
    k_search isInt
    rw [isi_bool h]
    k_search isBool
    exact q
  | .non, _ => exact q
  | .str b, _ => exact q
  | .lst b, _ => exact q
  | .slst b, _ => exact q
  | .tup b, _ => exact q
  | .dic b, _ => exact q
/-! ### names -/
def azB (c : Nat) : Bool := !decide ([c] < [97]) && !decide ([122] < [c])
def nameB : D → Bool | .str s => (decide (1 ≤ (s.length : Int)) && decide ((s.length : Int) ≤ 8)) && s.cps.toList.all azB | _ => false
def azD : D → Bool | .str s => !decide (s.cps.toList < [97]) && !decide ([122] < s.cps.toList) | _ => false
theorem az_all (s : Str) : ((signsD s).map fun d => D.bl (azD d)) = (s.cps.toList.map azB).map D.bl := by
  unfold signsD; rw [List.map_map, List.map_map]; rfl
theorem az_none (s : Str) : ((signsD s).filter fun d => !azD d).isEmpty = s.cps.toList.all azB := by
  unfold signsD
  rw [List.filter_map, List.isEmpty_map]
  generalize s.cps.toList = l
  induction l with
  | nil => rfl
  | cons c l ih =>
    rw [List.filter_cons, List.all_cons]
    show (if (!azB c) = true then _ else _ : List Nat).isEmpty = _
    cases azB c with
    | true => simpa using ih
    | false => rfl
abbrev Sm (d : D) : Prop := AD 8 190000 d
theorem Sm.ky {d : D} (h : Sm d) : kindly d := h.k.kindly
theorem Sm.len {s : Str} (h : Sm (.str s)) : s.length ≤ 20000 := by
  have : 10 * s.length + 2 ≤ 190000 := h.w
  omega
def sem_p_is_name : Sem := fun ds cs R => ∃ d, ds = [d] ∧ Sm d ∧ R (.bl (nameB d)) cs
theorem len_p_is_name : ∀ ds cs R, sem_p_is_name ds cs R → ds.length = 1 := by rintro ds cs R ⟨d, rfl, _⟩; rfl
def ex_p_is_name_1 : DE :=
  (dChain dLe dLe (dC (.int 1)) (dCall fLen (dCons (dVar 0) dNil)) (dC (.int 8)))
def ex_p_is_name_2 : DE :=
  (dChain dLeS dLeS (dC (.str "a")) (dVar 1) (dC (.str "z")))
def ex_p_is_name_3 : DE :=
  (dLc (iStrD (dVar 0)) (.one 1) dYes ex_p_is_name_2)
def ex_p_is_name_4 : DE :=
  (dAndV (dCall (fIsi "str") (dCons (dVar 0) (dCons (dC (.ty "str")) dNil))) (dAndV ex_p_is_name_1 (dCall fAll (dCons ex_p_is_name_3 dNil))))
/-- is_name: slots 0=thing 1=sign -/
def den_p_is_name : DS :=
  (sRet ex_p_is_name_4)
theorem signs_len (s : Str) : (signsD s).length = s.length := by simp [signsD, Str.length]
theorem az_if {c : Nat} {A : Bool → Prop} (h : A (azB c)) : if [c] < [97] then A false else A (!decide ([122] < [c])) := by
  unfold azB at h
  by_cases z : [c] < [97]
  · rw [if_pos z]; rw [decide_eq_true z] at h; exact h
  · rw [if_neg z]; rw [decide_eq_false z] at h; exact h
theorem okd_p_is_name : ∀ ds cs R, sem_p_is_name ds cs R → den_p_is_name { nx := fun c => R .non c.cs, rt := R } ⟨env0 2 ds, cs⟩ := by
  rintro ds cs R ⟨d, rfl, h, q⟩
  unfold den_p_is_name ex_p_is_name_4 ex_p_is_name_1
  walk_at "dl"
  rw [isi_str h.ky]
  match d, h with
  | .str s, h =>
    k_search isStr
    have hl := h.len
    refine ⟨by omega, ?_⟩
    have q' : R (.bl ((decide (1 ≤ (s.length : Int)) && decide ((s.length : Int) ≤ 8)) && s.cps.toList.all azB)) cs := q
    refine ite_both (fun z1 => ite_both (fun z2 => ?_) fun z => ?_) fun z => ?_
    · rw [decide_eq_true z1, decide_eq_true z2] at q'
      unfold ex_p_is_name_3
      refine ⟨_, rfl, fun k hk => ?_⟩
      refine lc_plain (b := fun _ => true) (f := fun d => .bl (azD d)) hk (fun d hd => ?_) (by rw [signs_len, sizeLine_eq]; simp; omega) ?_
      · obtain ⟨c, _, rfl⟩ := List.mem_map.mp hd
        refine ⟨_, rfl, fun cs Q h => h, fun _ cs Q h => ?_⟩
        unfold ex_p_is_name_2
        k_search dLeS
        exact az_if (A := fun b => Q (.bl b) _) h
      · rw [show (signsD s).filter (fun _ => true) = signsD s from List.filter_eq_self.mpr fun _ _ => rfl, List.nil_append, az_all]
        exact ⟨_, _, rfl, rfl, by rw [List.all_map]; exact q'⟩
    · rw [decide_eq_false z, Bool.and_false] at q'; exact q'
    · rw [decide_eq_false z] at q'; exact q'
  | .non, _ => exact q
  | .bl b, _ => exact q
  | .int b, _ => exact q
  | .lst b, _ => exact q
  | .slst b, _ => exact q
  | .tup b, _ => exact q
  | .dic b, _ => exact q
/-! ### what names a box or a worth -/
/-! ### words -/
theorem any_strs (ss : List Str) (s : Str) : ((ss.map D.str).any fun d => eqF d (.str s)) = ss.any fun t => t == s := by rw [List.any_map]; rfl
theorem strs_flat (ss : List Str) : (ss.map D.str).all flatD = true := by rw [List.all_map]; exact List.all_eq_true.mpr fun _ _ => rfl
def sem_l_is_name : Sem := fun ds cs R => ∃ d, ds = [d] ∧ Sm d ∧ R (.bl (nameB d)) cs
theorem len_l_is_name : ∀ ds cs R, sem_l_is_name ds cs R → ds.length = 1 := by rintro ds cs R ⟨d, rfl, _⟩; rfl
def te_l_is_name_1 : DT :=
  (dOrT (dNotT (dTru (dCall (fIsi "str") (dCons (dVar 0) (dCons (dC (.ty "str")) dNil))))) (dNotT (dTB (dChain dLe dLe (dC (.int 1)) (dCall fLen (dCons (dVar 0) dNil)) (dC (.int 8))))))
def ex_l_is_name_1 : DE :=
  (dLc (iStrD (dVar 0)) (.one 1) (dNotT (dTB (dChain dLeS dLeS (dC (.str "a")) (dVar 1) (dC (.str "z"))))) (dVar 1))
/-- _law_is_name: slots 0=_law_thing 1=_law_sign -/
def den_l_is_name : DS :=
  (sSeq (sIf te_l_is_name_1 (sRet (dC (.bl false))) sNext)
    (sRet (dBin dEqNil ex_l_is_name_1 (dLst dNil))))
theorem az_not {c : Nat} {A : Bool → Prop} (h : A (!azB c)) : if [c] < [97] then A true else if [122] < [c] then A true else A false := by
  unfold azB at h
  by_cases z : [c] < [97]
  · rw [if_pos z]; rw [decide_eq_true z] at h; exact h
  · rw [if_neg z]; rw [decide_eq_false z] at h
    by_cases y : [122] < [c]
    · rw [if_pos y]; rw [decide_eq_true y] at h; exact h
    · rw [if_neg y]; rw [decide_eq_false y] at h; exact h
theorem okd_l_is_name : ∀ ds cs R, sem_l_is_name ds cs R → den_l_is_name { nx := fun c => R .non c.cs, rt := R } ⟨env0 2 ds, cs⟩ := by
  rintro ds cs R ⟨d, rfl, h, q⟩
  unfold den_l_is_name te_l_is_name_1
  walk_at "dl"
  rw [isi_str h.ky]
  match d, h with
  | .str s, h =>
    have hl := h.len
    have q' : R (.bl ((decide (1 ≤ (s.length : Int)) && decide ((s.length : Int) ≤ 8)) && s.cps.toList.all azB)) cs := q
    refine ⟨true, rfl, ?_⟩
    walk_at "dl"
    refine ⟨by omega, ?_⟩
    refine ite_both (fun z1 => ite_both (fun z2 => ?_) fun z => ?_) fun z => ?_
    · rw [decide_eq_true z1, decide_eq_true z2] at q'
      unfold ex_l_is_name_1
      refine ⟨_, rfl, fun k hk => ?_⟩
      refine lc_plain (b := fun d => !azD d) (f := fun d => d) hk (fun d hd => ?_) (by rw [signs_len, sizeLine_eq]; simp; omega) ?_
      · obtain ⟨c, _, rfl⟩ := List.mem_map.mp hd
        refine ⟨_, rfl, fun cs Q h => ?_, fun _ cs Q h => ⟨_, rfl, h⟩⟩
        k_search dLeS
        exact az_not (A := fun b => Q b _) h
      · rw [List.map_id', List.nil_append]
        show R (.bl (false != (List.filter (fun d => !azD d) (signsD s)).isEmpty)) cs
        rw [az_none]
        have : (false != s.cps.toList.all azB) = s.cps.toList.all azB := by cases s.cps.toList.all azB <;> rfl
        rw [this]; exact q'
    · rw [decide_eq_false z, Bool.and_false] at q'; exact q'
    · rw [decide_eq_false z] at q'; exact q'
  | .non, _ => exact ⟨false, rfl, q⟩
  | .bl b, _ => exact ⟨false, rfl, q⟩
  | .int b, _ => exact ⟨false, rfl, q⟩
  | .lst b, _ => exact ⟨false, rfl, q⟩
  | .slst b, _ => exact ⟨false, rfl, q⟩
  | .tup b, _ => exact ⟨false, rfl, q⟩
  | .dic b, _ => exact ⟨false, rfl, q⟩
/-! ### what fits a kind -/
local macro_rules | `(tactic| k_search $t) => `(tactic| simp only [$t:term, sNext, sSeq, sAsg, sRet, sRetN, sDrop, e_if, sBreak, sCont, sAsgG, e_par, e_par3, gNm, e_set, e_setC, gList, dVar, dC, dBin, e_int2, e_add_ii, e_add_ib, e_add_ss, e_add_ll, e_add_tt, dSub, dMul, dDiv, dMod, dPow, dShl, dShr, dAnd, dOr, dXor, e_neg, dLt, dLe, dGt, dGe, e_eq_ii, e_eq_bb, e_eq_ss, e_ne_ii, e_ne_bb, e_ne_ss, e_eq_l, e_eq_sl, e_eq_t, e_eq_n, e_ne_l, e_ne_sl, e_ne_t, e_ne_n, e_chain, dTru, e_tb, e_tru_n, e_tru_b, e_tru_i, e_tru_l, e_tru_sl, e_tru_t, e_tru_d, e_andT, e_orT, dNotT, e_andV, e_orV, dNotV, e_ifE, onB_t, onB_f, onB_dec, onB_ndec, onB_not, onI_i, dNil, dCons, dTup, dLst, dLstC, dCall, dFn, dFnK, e_abs, e_max, e_min, e_int_i, e_int_b, e_len_l, e_len_sl, e_len_t, e_len_d, e_len_s, e_len_c, e_sum_l, e_ix_l, e_ix_sl, e_ix_t, e_ix_c, e_ix_s, e_ix_di, e_ix_ds, dSl, e_sl_l, e_sl_sl, e_sl_t, e_sl_s, dNoPart, e_part, iSeq, iTp, e_rng1, iRng2, sFor, sWhile, dDNew, dIsN, dIsNotN, isNon, env0,
  List.map_cons, List.map_nil, List.length_cons, List.length_nil, List.replicate, List.cons_append, List.nil_append, List.append_nil, Nat.sub_self, Nat.reduceSub, Nat.reduceAdd, List.getElem?_cons_zero, List.getElem?_cons_succ, List.set_cons_zero, List.set_cons_succ, Option.some.injEq, Co.lst.injEq, exists_eq_left', exists_eq_left, exists_and_left, List.cons.injEq, decide_eq_true_eq, true_and, and_true, decide_true, decide_false, if_true, if_false, Bool.false_eq_true, Bool.not_true, Bool.not_false, listD, intsOf_map, put_same, put_put, at0, at1, at2, at3, at4, at5, ix20, ix21, sizeLine_eq, Nat.reduceLeDiff, Int.reduceLT, Int.reduceLE, Int.reduceNeg, gt_iff_lt, ge_iff_le, Int.one_mul, wipeD, TgN.vs, List.foldr_cons, List.foldr_nil, tgSet, fStr_i, fReprD_d, e_gtp, onCel_c, onDic_d, onKey_i, onKey_s, dIxC, dInC, dNotInC, dInCN, dUpd, dFrz, dFrzD, e_isB, cellD_dic, cellD_fdic, dBits, dDNewC, Co.dic.injEq, exists_eq', eq_self, and_self, e_enum, e_zip])
local macro_rules | `(tactic| walk_at "dl") => `(tactic| k_search put_same)
local macro_rules | `(tactic| walk_at "nd") => `(tactic| (simp only [List.map_cons, List.map_nil, List.cons_append, List.nil_append, List.append_nil]; decide +kernel))
local macro_rules | `(tactic| walk_at "asm") => `(tactic| repeat (refine And.intro (by assumption) ?_))
/-! ### contracts: their data -/
inductive Pt | num (a b : Int) | cells (n : Int) | room (s : Str) | lent (s : Str) | back
def Pt.d : Pt → D
  | .num a b => .tup [.str "number", .int a, .int b]
  | .cells n => .tup [.str "cells", .int n]
  | .room s => .tup [.str "room", .str s]
  | .lent s => .tup [.str "lent", .str s]
  | .back => .tup [.str "back"]
structure TxOk (s : Str) : Prop where
  ok : PyData.strOk s = true
  len : s.length ≤ 20
  cps : ∀ c ∈ s.cps.toList, c < 16 ^ 8
def Pt.ok : Pt → Prop
  | .num a b => NmOk a ∧ NmOk b | .cells n => NmOk n | .room s => TxOk s | .lent s => TxOk s | .back => True
structure Cl where
  nm : Str
  tk : List Pt
  gv : Pt
def Cl.d (c : Cl) : D := .tup [.str c.nm, .tup (c.tk.map Pt.d), c.gv.d]
structure Cl.ok (c : Cl) : Prop where
  nm : TxOk c.nm
  few : c.tk.length ≤ 3
  tk : ∀ p ∈ c.tk, p.ok
  gv : c.gv.ok
def shD (p : Str × Int) : D := .tup [.str p.1, .int p.2]
structure Ct where
  sh : List (Str × Int)
  cl : List Cl
def Ct.d (c : Ct) : D := .tup [.lst (c.sh.map shD), .lst (c.cl.map Cl.d)]
structure Ct.ok (c : Ct) : Prop where
  shn : c.sh.length ≤ 3
  sh : ∀ p ∈ c.sh, TxOk p.1 ∧ NmOk p.2
  shu : (c.sh.map (·.1)).Nodup
  cln : c.cl.length ≤ 6
  cl : ∀ x ∈ c.cl, x.ok
  clu : (c.cl.map (·.nm)).Nodup
theorem tx_lit {s : String} (h : (PyData.strOk (Str.ofString s) && Nat.ble (Str.ofString s).length 20 && (Str.ofString s).cps.toList.all fun c => Nat.blt c (16 ^ 8)) = true) : TxOk (Str.ofString s) := by
  rw [Bool.and_eq_true, Bool.and_eq_true] at h
  exact ⟨h.1.1, Nat.le_of_ble_eq_true h.1.2, fun c hc => Nat.le_of_ble_eq_true (List.all_eq_true.mp h.2 c hc)⟩
theorem so_lit {s : String} (h : PyData.strOk (Str.ofString s) = true := by decide +kernel) (k : Nat) : Dt k (.str (Str.ofString s)) := by cases k <;> exact h
/-! #### their forms -/
theorem Pt.dt {p : Pt} (h : p.ok) : Dt 1 p.d := by
  cases p <;> intro e he <;> simp only [List.mem_cons, List.not_mem_nil, or_false] at he
  · rcases he with rfl | rfl | rfl <;> first | exact so_lit (by decide +kernel) 0 | trivial
  · rcases he with rfl | rfl <;> first | exact so_lit (by decide +kernel) 0 | trivial
  · rcases he with rfl | rfl <;> first | exact so_lit (by decide +kernel) 0 | exact h.ok
  · rcases he with rfl | rfl <;> first | exact so_lit (by decide +kernel) 0 | exact h.ok
  · subst he; exact so_lit (by decide +kernel) 0
theorem Dt.up {k : Nat} {d : D} (h : Dt k d) : Dt (k + 1) d := by
  induction k using Nat.strongRecOn generalizing d with
  | _ k ih =>
    cases k with
    | zero => cases d <;> first | trivial | exact h | exact h.elim
    | succ k =>
      cases d <;> first
        | trivial
        | exact h
        | exact h.elim
        | exact fun e he => ih k (Nat.lt_succ_self _) (h e he)
theorem Cl.dt {c : Cl} (h : c.ok) : Dt 3 c.d := by
  intro e he
  simp only [List.mem_cons, List.not_mem_nil, or_false] at he
  rcases he with rfl | rfl | rfl
  · exact h.nm.ok
  · intro e he
    obtain ⟨p, hp, rfl⟩ := List.mem_map.mp he
    exact Pt.dt (h.tk p hp)
  · exact (Pt.dt h.gv).up
theorem isoA_map {α : Type} {f : α → D} (h : ∀ a, iso (f a) = true) : ∀ l : List α, isoA (l.map f) = true
  | [] => rfl
  | a :: l => by
    show (iso (f a) && isoA (l.map f)) = true
    rw [h a, isoA_map h l]; rfl
theorem Pt.iso (p : Pt) : iso p.d = true := by cases p <;> rfl
theorem Cl.iso (c : Cl) : iso c.d = true := by
  show (true && ((isoA (c.tk.map Pt.d)) && (DL.iso c.gv.d && true))) = true
  rw [isoA_map Pt.iso, Pt.iso]; rfl
theorem Pt.inj {p q : Pt} (h : p.d = q.d) : p = q := by
  cases p <;> cases q <;> first | (cases h; rfl) | (injection h with h; injection h with h1 h2; first | (cases h2; done) | (exact absurd h1 (by simp only [D.str.injEq]; decide +kernel)))
theorem Cl.inj {c e : Cl} (h : c.d = e.d) : c = e := by
  obtain ⟨n, t, g⟩ := c
  obtain ⟨n', t', g'⟩ := e
  unfold Cl.d at h
  injection h with h
  injection h with h1 h
  injection h with h2 h
  injection h with h3 h
  injection h1 with h1
  injection h2 with h2
  have e2 := (List.map_inj_right (fun x y => Pt.inj)).mp h2
  have e3 := Pt.inj h3
  simp only at h1 e2 e3
  subst h1 e2 e3
  rfl
def sem_l_bounds : Sem := fun ds cs R => ∃ j, ds = [.cel j] ∧ Pool cs j ∧ ∀ (a b : Int) cs', NmOk a → NmOk b → Pool cs' j → But j cs cs' → R (Pt.num a b).d cs'
theorem len_l_bounds : ∀ ds cs R, sem_l_bounds ds cs R → ds.length = 1 := by rintro ds cs R ⟨_, rfl, _⟩; rfl
/-- _law_bounds: slots 0=_law_pool_here 1=_law_least -/
def den_l_bounds : DS :=
  (sSeq (sAsg (dBin dIxF (dLst (dCons (dC (.int 0)) (dCons (dC (.int 0)) (dCons (dC (.int 1)) (dCons (dC (.int 65535)) (dCons (dFn 2 sem_l_take (fun ds _ => ds) (dCons (dVar 0) (dCons (dC (.int 65536)) dNil))) dNil)))))) (dFn 2 sem_l_take (fun ds _ => ds) (dCons (dVar 0) (dCons (dC (.int 5)) dNil)))) 1)
    (sRet (dTup (dCons (dC (.str "number")) (dCons (dVar 1) (dCons (dBin dAdd (dVar 1) (dFn 2 sem_l_take (fun ds _ => ds) (dCons (dVar 0) (dCons (dBin dSub (dC (.int 65536)) (dVar 1)) dNil)))) dNil))))))
theorem okd_l_bounds : ∀ ds cs R, sem_l_bounds ds cs R → den_l_bounds { nx := fun c => R .non c.cs, rt := R } ⟨env0 2 ds, cs⟩ := by
  rintro ds cs R ⟨j, rfl, hp, q⟩
  unfold den_l_bounds
  k_search sem_l_take
  refine ⟨by decide, hp, fun r cs1 r0 r1 hp1 b1 => ⟨by decide, hp1, fun x cs2 x0 x1 hp2 b2 => ?_⟩⟩
  have main : ∀ m : Int, 0 ≤ m → m ≤ 65535 → (0 < 65536 - m ∧ 65536 - m < 2 ^ 200) ∧ Pool cs2 j ∧ Draw j (65536 - m) cs2 fun r cs' => R (D.tup [D.str (Str.ofString "number"), D.int m, D.int (m + r)]) cs' := fun m m0 m1 =>
    ⟨by omega, hp2, fun y cs3 y0 y1 hp3 b3 => q m (m + y) cs3 (by constructor <;> omega) (by constructor <;> omega) hp3 ((b1.trans b2).trans b3)⟩
  rcases (show x = 0 ∨ x = 1 ∨ x = 2 ∨ x = 3 ∨ x = 4 by omega) with rfl | rfl | rfl | rfl | rfl
  · exact ⟨_, at0, trivial, main 0 (by decide) (by decide)⟩
  · exact ⟨_, at1, trivial, main 0 (by decide) (by decide)⟩
  · exact ⟨_, at2, trivial, main 1 (by decide) (by decide)⟩
  · exact ⟨_, at3, trivial, main 65535 (by decide) (by decide)⟩
  · exact ⟨_, at4, trivial, main r r0 (by omega)⟩
/-! ### a contract -/
def five : List Str := ["find", "back", "tell", "ask", "sum"]
structure Base (c : Ct) : Prop where
  sh : ∃ (n : Int) (t : List (Str × Int)), c.sh = (("rooms" : Str), n) :: t ∧ (1 ≤ n ∧ n ≤ 8) ∧ (t = [] ∨ t = [(("bits" : Str), (1 : Int))])
  cl : c.cl ≠ []
  nm : ∀ x ∈ c.cl, x.nm ∈ five
  few : c.cl.length ≤ 5
theorem cut_to {xs : List D} {n : Nat} : cutD xs none (some (n : Int)) = xs.take n := by
  unfold cutD
  rw [HT.sIx_nat, HT.sIx_none, List.drop_zero, Nat.sub_zero, List.take_eq_take_iff]
  omega
def But2 (j k : Nat) (cs cs' : Cells) : Prop := ∀ i, i ≠ j → i ≠ k → cs' i = cs i
theorem But2.of {j k : Nat} {cs cs' : Cells} (h : But j cs cs') : But2 j k cs cs' := fun i hi _ => h i hi
theorem But2.trans {j k : Nat} {cs cs1 cs2 : Cells} (a : But2 j k cs cs1) (b : But2 j k cs1 cs2) : But2 j k cs cs2 := fun i h h' => (b i h h').trans (a i h h')
theorem But2.put {j k : Nat} {cs : Cells} {o : Co} : But2 j k cs (put cs k o) := fun i _ h => put_ne h
def EC (j k : Nat) (sh : List (Str × Int)) (nm s : Str) (P : List Pt) (w : Int) : List (Option D) := [some (.cel j), some (.lst (sh.map shD)), some (.cel k), some (.str nm), some (.str s), some (.lst (P.map Pt.d)), some (.int w)]
section
variable {j k : Nat} {sh : List (Str × Int)} {nm s : Str} {P : List Pt} {w : Int} {DD : DEnds} {cs : Cells} {cls : List Cl}
def if_l_contract_1 : DS :=
  (sIf (dTB (dBin dEq (dVar 6) (dC (.int 1)))) (sDrop (dApp (dVar 2) (dTup (dCons (dVar 3) (dCons (dCall fTupOf (dCons (dBin dAdd (dLst (dCons (dTup (dCons (dC (.str "room")) (dCons (dVar 4) dNil))) dNil)) (dSl (dVar 5) dNoPart (dPart (dFn 2 sem_l_take (fun ds _ => ds) (dCons (dVar 0) (dCons (dC (.int 3)) dNil)))))) dNil)) (dCons (dTup (dCons (dC (.str "back")) dNil)) dNil)))))) (sDrop (dApp (dVar 2) (dTup (dCons (dVar 3) (dCons (dCall fTupOf (dCons (dSl (dSl (dBin dAdd (dLst (dCons (dTup (dCons (dC (.str "room")) (dCons (dVar 4) dNil))) dNil)) (dVar 5)) (dPart (dFn 2 sem_l_take (fun ds _ => ds) (dCons (dVar 0) (dCons (dC (.int 3)) dNil)))) dNoPart) dNoPart (dPart (dC (.int 3)))) dNil)) (dCons (dFn 1 sem_l_bounds (fun ds _ => ds) (dCons (dVar 0) dNil)) dNil)))))))
def if_l_contract_2 : DS :=
  (sIf (dTB (dBin dEq (dVar 6) (dC (.int 0)))) (sDrop (dApp (dVar 2) (dTup (dCons (dVar 3) (dCons (dCall fTupOf (dCons (dBin dAdd (dLst (dCons (dFn 1 sem_l_bounds (fun ds _ => ds) (dCons (dVar 0) dNil)) dNil)) (dSl (dVar 5) dNoPart (dPart (dFn 2 sem_l_take (fun ds _ => ds) (dCons (dVar 0) (dCons (dC (.int 3)) dNil)))))) dNil)) (dCons (dTup (dCons (dC (.str "lent")) (dCons (dVar 4) dNil))) dNil)))))) if_l_contract_1)
def if_l_contract_3 : DS :=
  (sIf (dTB (dBin dEq (dVar 6) (dC (.int 5)))) (sDrop (dApp (dVar 2) (dTup (dCons (dVar 3) (dCons (dTup (dCons (dBin dIxF (dVar 5) (dC (.int 0))) (dCons (dTup (dCons (dC (.str "room")) (dCons (dVar 4) dNil))) (dCons (dTup (dCons (dC (.str "room")) (dCons (dBin dIxF (dBin dIxF (dVar 1) (dNeg (dC (.int 1)))) (dC (.int 0))) dNil))) dNil)))) (dCons (dTup (dCons (dC (.str "lent")) (dCons (dVar 4) dNil))) dNil)))))) if_l_contract_2)
def if_l_contract_4 : DS :=
  (sIf (dTB (dBin dEq (dVar 6) (dC (.int 4)))) (sDrop (dApp (dVar 2) (dTup (dCons (dVar 3) (dCons (dTup (dCons (dFn 1 sem_l_bounds (fun ds _ => ds) (dCons (dVar 0) dNil)) (dCons (dTup (dCons (dC (.str "room")) (dCons (dVar 4) dNil))) dNil))) (dCons (dFn 1 sem_l_bounds (fun ds _ => ds) (dCons (dVar 0) dNil)) dNil)))))) if_l_contract_3)
def bd_l_contract_1 : DS :=
  (sSeq (sAsg (dBin dIxF (dBin dIxF (dVar 1) (dFn 2 sem_l_take (fun ds _ => ds) (dCons (dVar 0) (dCons (dCall fLen (dCons (dVar 1) dNil)) dNil)))) (dC (.int 0))) 4)
    (sSeq (sAsg (dLst (dCons (dFn 1 sem_l_bounds (fun ds _ => ds) (dCons (dVar 0) dNil)) (dCons (dTup (dCons (dC (.str "cells")) (dCons (dBin dAdd (dC (.int 1)) (dFn 2 sem_l_take (fun ds _ => ds) (dCons (dVar 0) (dCons (dC (.int 8)) dNil)))) dNil))) (dCons (dFn 1 sem_l_bounds (fun ds _ => ds) (dCons (dVar 0) dNil)) dNil)))) 5)
    (sSeq (sAsg (dFn 2 sem_l_take (fun ds _ => ds) (dCons (dVar 0) (dCons (dC (.int 6)) dNil))) 6)
    if_l_contract_4)))
/-- _law_contract: slots 0=_law_pool_here 1=_law_shelves 2=_law_calls 3=_law_name 4=_law_shelf 5=_law_some 6=_law_way -/
def den_l_contract : DS :=
  (sSeq (sAsg (dSl (dLst (dCons (dTup (dCons (dC (.str "rooms")) (dCons (dBin dAdd (dC (.int 1)) (dFn 2 sem_l_take (fun ds _ => ds) (dCons (dVar 0) (dCons (dC (.int 8)) dNil)))) dNil))) (dCons (dTup (dCons (dC (.str "bits")) (dCons (dC (.int 1)) dNil))) dNil))) dNoPart (dPart (dBin dAdd (dC (.int 1)) (dFn 2 sem_l_take (fun ds _ => ds) (dCons (dVar 0) (dCons (dC (.int 2)) dNil)))))) 1)
    (sSeq (sAsg (dLstC dNil) 2)
    (sSeq (sFor (iSeq (dSl (dLst (dCons (dC (.str "find")) (dCons (dC (.str "back")) (dCons (dC (.str "tell")) (dCons (dC (.str "ask")) (dCons (dC (.str "sum")) dNil)))))) dNoPart (dPart (dBin dAdd (dC (.int 1)) (dFn 2 sem_l_take (fun ds _ => ds) (dCons (dVar 0) (dCons (dC (.int 5)) dNil))))))) (gNm 3) bd_l_contract_1)
    (sRet (dTup (dCons (dVar 1) (dCons (dFrz (dVar 2)) dNil)))))))
theorem take_ok {P : List Pt} (hP : ∀ p ∈ P, p.ok) (n : Nat) : ∀ p ∈ P.take n, p.ok := fun p hp => hP p (List.mem_of_mem_take hp)
theorem cons_ok {P : List Pt} {a : Pt} (ha : a.ok) (hP : ∀ p ∈ P, p.ok) : ∀ p ∈ a :: P, p.ok := fun p hp => (List.mem_cons.mp hp).elim (fun e => e ▸ ha) (hP p)
def ADD (j k : Nat) (sh : List (Str × Int)) (nm s : Str) (P : List Pt) (w : Int) (DD : DEnds) (cs : Cells) : Prop :=
  ∀ (c : Cl) cs', c.ok → c.nm = nm → Pool cs' j → But j cs cs' → ∃ ds, cs' k = some (.lst ds) ∧ ds.length < sizeLine ∧ DD.nx ⟨EC j k sh nm s P w, put cs' k (.lst (ds ++ [c.d]))⟩
theorem add_of (hjk : j ≠ k) (hk : cs k = some (.lst (cls.map Cl.d))) (hc : cls.length < 10)
    (q : ∀ c cs', c.ok → c.nm = nm → cs' k = some (.lst ((cls ++ [c]).map Cl.d)) → Pool cs' j → But2 j k cs cs' → DD.nx ⟨EC j k sh nm s P w, cs'⟩) : ADD j k sh nm s P w DD cs := fun c cs' h1 h2 h3 b =>
  ⟨_, (b k hjk.symm).trans hk, by rw [sizeLine_eq, List.length_map]; omega, q c _ h1 h2 (by rw [put_same, List.map_append]; rfl) (h3.other (put_ne hjk)) ((But2.of b).trans .put)⟩
theorem cif1 (hnm : TxOk nm) (hs : TxOk s) (hP : ∀ p ∈ P, p.ok) (hl : P.length = 3) (hk : ∃ ds, cs k = some (.lst ds)) (hp : Pool cs j) (add : ADD j k sh nm s P w DD cs) : if_l_contract_1 DD ⟨EC j k sh nm s P w, cs⟩ := by
  unfold if_l_contract_1 dApp
  unfold ADD EC at *
  k_search fTupOf
  k_search sem_l_take
  refine ite_both (fun z => ⟨hk, by decide, hp, fun r cs1 r0 r1 hp1 b1 => ?_⟩) fun z => ⟨hk, by rw [List.length_map]; omega, by decide, hp, fun r cs1 r0 r1 hp1 b1 => ?_⟩
  · obtain ⟨n, rfl⟩ : ∃ n : Nat, r = n := ⟨r.toNat, by omega⟩
    rw [cut_to, ← List.map_take]
    refine ⟨by rw [List.length_map, List.length_take]; omega, ?_⟩
    exact add ⟨nm, .room s :: P.take n, .back⟩ cs1 ⟨hnm, by rw [List.length_cons, List.length_take]; omega, cons_ok hs (take_ok hP n), trivial⟩ rfl hp1 b1
  · obtain ⟨n, rfl⟩ : ∃ n : Nat, r = n := ⟨r.toNat, by omega⟩
    refine ⟨j, rfl, hp1, fun a b cs2 ha hb hp2 b2 => ?_⟩
    have e3 : (3 : Int) = ((3 : Nat) : Int) := rfl
    rw [show D.tup [D.str (Str.ofString "room"), D.str s] = (Pt.room s).d from rfl, ← List.map_cons, cut_from, e3, cut_to, ← List.map_drop, ← List.map_take]
    exact add ⟨nm, ((Pt.room s :: P).drop n).take 3, .num a b⟩ cs2 ⟨hnm, by rw [List.length_take]; omega, fun p hp => cons_ok (a := .room s) hs hP p (List.mem_of_mem_drop (List.mem_of_mem_take hp)), ⟨ha, hb⟩⟩ rfl hp2 (b1.trans b2)
theorem cif2 (hnm : TxOk nm) (hs : TxOk s) (hP : ∀ p ∈ P, p.ok) (hl : P.length = 3) (hk : ∃ ds, cs k = some (.lst ds)) (hp : Pool cs j) (add : ADD j k sh nm s P w DD cs) : if_l_contract_2 DD ⟨EC j k sh nm s P w, cs⟩ := by
  unfold if_l_contract_2
  refine (show _ from ?_)
  have next := cif1 hnm hs hP hl hk hp add
  unfold dApp
  unfold ADD EC at *
  k_search fTupOf
  k_search sem_l_take
  refine ite_both (fun z => ⟨hk, j, rfl, hp, fun a b cs1 ha hb hp1 b1 => ⟨by decide, hp1, fun r cs2 r0 r1 hp2 b2 => ?_⟩⟩) fun z => next
  obtain ⟨n, rfl⟩ : ∃ n : Nat, r = n := ⟨r.toNat, by omega⟩
  rw [cut_to, ← List.map_take]
  refine ⟨by rw [List.length_map, List.length_take]; omega, ?_⟩
  exact add ⟨nm, .num a b :: P.take n, .lent s⟩ cs2 ⟨hnm, by rw [List.length_cons, List.length_take]; omega, cons_ok (a := .num a b) ⟨ha, hb⟩ (take_ok hP n), hs⟩ rfl hp2 (b1.trans b2)
theorem cif3 (hsh : ∃ p ∈ sh, TxOk p.1 ∧ L2.atI (sh.map shD) (-1) = some (shD p)) (hnm : TxOk nm) (hs : TxOk s) (hP : ∀ p ∈ P, p.ok) (hl : P.length = 3) (hk : ∃ ds, cs k = some (.lst ds)) (hp : Pool cs j) (add : ADD j k sh nm s P w DD cs) : if_l_contract_3 DD ⟨EC j k sh nm s P w, cs⟩ := by
  unfold if_l_contract_3
  have next := cif2 hnm hs hP hl hk hp add
  obtain ⟨p, m, hp1, hp2⟩ := hsh
  unfold dApp
  unfold ADD EC at *
  k_search hp2
  refine ite_both (fun z => ⟨hk, ?_⟩) fun z => next
  match P, hl, hP with
  | [x, y, v], _, hP =>
    refine ⟨_, at0, ?_⟩
    unfold shD
    walk_at "dl"
    exact add ⟨nm, [x, .room s, .room p.1], .lent s⟩ cs ⟨hnm, Nat.le_refl _, cons_ok (hP x List.mem_cons_self) (cons_ok (a := .room s) hs (cons_ok (a := .room p.1) hp1 fun _ h => absurd h List.not_mem_nil)), hs⟩ rfl hp .refl
theorem cif4 (hsh : ∃ p ∈ sh, TxOk p.1 ∧ L2.atI (sh.map shD) (-1) = some (shD p)) (hnm : TxOk nm) (hs : TxOk s) (hP : ∀ p ∈ P, p.ok) (hl : P.length = 3) (hk : ∃ ds, cs k = some (.lst ds)) (hp : Pool cs j) (add : ADD j k sh nm s P w DD cs) : if_l_contract_4 DD ⟨EC j k sh nm s P w, cs⟩ := by
  unfold if_l_contract_4
  have next := cif3 hsh hnm hs hP hl hk hp add
  unfold dApp
  unfold ADD EC at *
  walk_at "dl"
  refine ite_both (fun z => ⟨hk, j, rfl, hp, fun a b cs1 ha hb hp1 b1 => ?_⟩) fun z => next
  walk_at "dl"
  refine ⟨j, rfl, hp1, fun a' b' cs2 ha' hb' hp2 b2 => ?_⟩
  exact add ⟨nm, [.num a b, .room s], .num a' b'⟩ cs2 ⟨hnm, by show 2 ≤ 3; decide, cons_ok (a := .num a b) ⟨ha, hb⟩ (cons_ok (a := .room s) hs fun _ h => absurd h List.not_mem_nil), ⟨ha', hb'⟩⟩ rfl hp2 (b1.trans b2)
end
def sem_l_contract : Sem := fun ds cs R => ∃ j, ds = [.cel j] ∧ Pool cs j ∧ ∀ (one : Ct) cs', one.ok → Base one → Pool cs' j → But j cs cs' → R one.d cs'
theorem len_l_contract : ∀ ds cs R, sem_l_contract ds cs R → ds.length = 1 := by rintro ds cs R ⟨_, rfl, _⟩; rfl
/-- the shelves that are drawn -/
def Shs (sh : List (Str × Int)) : Prop := ∃ (n : Int) (t : List (Str × Int)), sh = (("rooms" : Str), n) :: t ∧ (1 ≤ n ∧ n ≤ 8) ∧ (t = [] ∨ t = [(("bits" : Str), (1 : Int))])
theorem Shs.all {sh : List (Str × Int)} (h : Shs sh) : sh.length ≤ 2 ∧ 0 < sh.length ∧ (∀ p ∈ sh, TxOk p.1 ∧ NmOk p.2) ∧ (sh.map (·.1)).Nodup ∧ ∃ p ∈ sh, TxOk p.1 ∧ L2.atI (sh.map shD) (-1) = some (shD p) := by
  obtain ⟨n, t, rfl, hn, ht⟩ := h
  have t1 : TxOk "rooms" := tx_lit (by decide +kernel)
  have t2 : TxOk "bits" := tx_lit (by decide +kernel)
  have n1 : NmOk n := by constructor <;> omega
  have n2 : NmOk 1 := by constructor <;> decide
  rcases ht with rfl | rfl
  · exact ⟨by simp, by simp, fun p hp => by rw [List.mem_singleton.mp hp]; exact ⟨t1, n1⟩, List.pairwise_singleton _ _, _, List.mem_cons_self, t1, rfl⟩
  · refine ⟨by simp, by simp, fun p hp => ?_, (by decide +kernel : [("rooms" : Str), "bits"].Nodup), _, List.mem_cons_of_mem _ List.mem_cons_self, t2, rfl⟩
    rcases List.mem_cons.mp hp with rfl | hp
    · exact ⟨t1, n1⟩
    · rw [List.mem_singleton.mp hp]; exact ⟨t2, n2⟩
theorem five_ok : ∀ s ∈ five, TxOk s := by
  intro s hs
  simp only [five, List.mem_cons, List.not_mem_nil, or_false] at hs
  rcases hs with rfl | rfl | rfl | rfl | rfl <;> exact tx_lit (by decide +kernel)
section
variable {j k : Nat} {sh : List (Str × Int)} {nm : Str} {DD : DEnds} {cs : Cells} {cls : List Cl} {e4 e5 e6 : Option D}
theorem cbody (hsh : Shs sh) (hnm : TxOk nm) (hjk : j ≠ k) (hk : cs k = some (.lst (cls.map Cl.d))) (hc : cls.length < 10) (hp : Pool cs j)
    (q : ∀ c e4 e5 e6 cs', c.ok → c.nm = nm → cs' k = some (.lst ((cls ++ [c]).map Cl.d)) → Pool cs' j → But2 j k cs cs' → DD.nx ⟨[some (.cel j), some (.lst (sh.map shD)), some (.cel k), some (.str nm), e4, e5, e6], cs'⟩) :
    bd_l_contract_1 DD ⟨[some (.cel j), some (.lst (sh.map shD)), some (.cel k), some (.str nm), e4, e5, e6], cs⟩ := by
  obtain ⟨a1, a2, a3, a4, a5⟩ := hsh.all
  unfold bd_l_contract_1
  k_search sem_l_take
  rw [List.length_map]
  refine ⟨⟨by omega, by omega⟩, hp, fun r cs1 r0 r1 hp1 b1 => ?_⟩
  obtain ⟨d, hd, hm⟩ := at_in (xs := sh.map shD) r0 (by rw [List.length_map]; exact r1)
  obtain ⟨p, hpm, rfl⟩ := List.mem_map.mp hm
  refine ⟨_, hd, ?_⟩
  unfold shD
  walk_at "dl"
  rw [show (fun p : Str × Int => D.tup [.str p.1, .int p.2]) = shD from rfl]
  refine ⟨j, rfl, hp1, fun a b cs2 ha hb hp2 b2 => ?_⟩
  k_search sem_l_take
  refine ⟨by decide, hp2, fun x cs3 x0 x1 hp3 b3 => ⟨j, rfl, hp3, fun a' b' cs4 ha' hb' hp4 b4 => ?_⟩⟩
  k_search sem_l_take
  refine ⟨by decide, hp4, fun w cs5 w0 w1 hp5 b5 => ?_⟩
  have bb := (((b1.trans b2).trans b3).trans b4).trans b5
  have hk5 := (bb k hjk.symm).trans hk
  have hP : ∀ p ∈ [Pt.num a b, .cells (1 + x), .num a' b'], p.ok := cons_ok (a := .num a b) ⟨ha, hb⟩ (cons_ok (a := .cells (1 + x)) (show NmOk _ by constructor <;> omega) (cons_ok (a := .num a' b') ⟨ha', hb'⟩ fun _ h => absurd h List.not_mem_nil))
  exact cif4 (sh := sh) (nm := nm) (s := p.1) (P := [.num a b, .cells (1 + x), .num a' b']) (w := w) a5 hnm (a3 p hpm).1 hP rfl ⟨_, hk5⟩ hp5 (add_of hjk hk5 hc fun c cs' h1 h2 h3 h4 h5 => q c _ _ _ cs' h1 h2 h3 h4 ((But2.of bb).trans h5))
end
theorem okd_l_contract : ∀ ds cs R, sem_l_contract ds cs R → den_l_contract { nx := fun c => R .non c.cs, rt := R } ⟨env0 7 ds, cs⟩ := by
  rintro ds cs R ⟨j, rfl, hp, q⟩
  unfold den_l_contract
  k_search sem_l_take
  refine ⟨by decide, hp, fun n cs1 n0 n1 hp1 b1 => ⟨by decide, hp1, fun r cs2 r0 r1 hp2 b2 => ?_⟩⟩
  have e5 : ∃ t, cutD [D.tup [D.str (Str.ofString "rooms"), D.int (1 + n)], D.tup [D.str (Str.ofString "bits"), D.int 1]] none (some (1 + r)) = List.map shD t ∧ Shs t := by
    rcases (show r = 0 ∨ r = 1 by omega) with rfl | rfl
    · exact ⟨[("rooms", 1 + n)], rfl, _, _, rfl, ⟨by omega, by omega⟩, .inl rfl⟩
    · exact ⟨[("rooms", 1 + n), ("bits", 1)], rfl, _, _, rfl, ⟨by omega, by omega⟩, .inr rfl⟩
  obtain ⟨sh, e5, hsh⟩ := e5
  dsimp only
  rw [e5]
  have bb := b1.trans b2
  intro k hk
  have hjk := hp2.ne hk
  refine ⟨by decide, hp2.other (put_ne hjk), fun m cs3 m0 m1 hp3 b3 => ?_⟩
  have e6 : cutD [D.str (Str.ofString "find"), D.str (Str.ofString "back"), D.str (Str.ofString "tell"), D.str (Str.ofString "ask"), D.str (Str.ofString "sum")] none (some (1 + m)) = (five.take (1 + m.toNat)).map D.str := by
    rw [show (1 + m) = ((1 + m.toNat : Nat) : Int) by omega, cut_to, List.map_take]; rfl
  dsimp only
  rw [e6]
  have l5 : (five.take (1 + m.toNat)).length = 1 + m.toNat := by rw [List.length_take]; show min _ 5 = _; omega
  refine ⟨fun i c => ∃ e3 e4 e5 e6, ∃ cls : List Cl, ∃ cs' : Cells, c = ⟨[some (.cel j), some (.lst (sh.map shD)), some (.cel k), e3, e4, e5, e6], cs'⟩ ∧ cs' k = some (.lst (cls.map Cl.d)) ∧ cls.map (·.nm) = five.take i ∧ cls.length = i ∧ (∀ c ∈ cls, c.ok) ∧ Pool cs' j ∧ But2 j k cs2 cs', ?_, ?_, ?_⟩
  · exact ⟨_, _, _, _, [], cs3, rfl, (b3 k hjk.symm).trans put_same, rfl, rfl, fun _ h => absurd h List.not_mem_nil, hp3, But2.trans But2.put (But2.of b3)⟩
  · rintro i d c2 hd ⟨e3, e4, e5, e6, cls, cs', rfl, g1, g2, g3, g4, g5, g6⟩
    rw [List.getElem?_map] at hd
    cases hs : (five.take (1 + m.toNat))[i]? with
    | none => rw [hs] at hd; cases hd
    | some nm =>
    rw [hs] at hd
    cases hd
    have hi : i < 1 + m.toNat := by rw [← l5]; exact (List.getElem?_eq_some_iff.mp hs).1
    have hs5 : five[i]? = some nm := by rw [List.getElem?_take_of_lt hi] at hs; exact hs
    walk_at "dl"
    refine cbody hsh (five_ok nm (List.mem_of_getElem? hs5)) hjk g1 (by omega) g5 fun c e4 e5 e6 cs' h1 h2 h3 h4 h5 => ?_
    refine ⟨_, _, _, _, cls ++ [c], cs', rfl, h3, ?_, by rw [List.length_append, g3]; rfl, fun x hx => ?_, h4, g6.trans h5⟩
    · rw [List.map_append, g2, List.take_add_one, hs5]
      show _ ++ [c.nm] = _ ++ [nm]
      rw [h2]
    · rcases List.mem_append.mp hx with hx | hx
      · exact g4 x hx
      · rw [List.mem_singleton.mp hx]; exact h1
  · rintro c2 ⟨e3, e4, e5, e6, cls, cs', rfl, g1, g2, g3, g4, g5, g6⟩
    rw [List.length_map, l5] at g2 g3
    walk_at "dl"
    refine ⟨_, g1, ?_⟩
    obtain ⟨a1, a2, a3, a4, a5⟩ := hsh.all
    have nd : (cls.map (·.nm)).Nodup := by rw [g2]; exact (show five.Nodup by decide +kernel).sublist (List.take_sublist _ _)
    refine q ⟨sh, cls⟩ _ ⟨Nat.le_trans a1 (by decide), a3, a4, by rw [g3]; omega, g4, nd⟩ ⟨hsh, fun e => ?_, fun x hx => ?_, by rw [g3]; omega⟩ (g5.other (del_ne hjk)) fun i hi => ?_
    · have e' : cls = [] := e
      rw [e'] at g3; simp at g3; omega
    · have : x.nm ∈ cls.map (·.nm) := List.mem_map.mpr ⟨x, hx, rfl⟩
      rw [g2] at this
      exact List.mem_of_mem_take this
    · by_cases e : i = k
      · rw [e, del_self]; exact ((bb k hjk.symm).symm.trans hk).symm
      · rw [del_ne e, g6 i hi e]; exact bb i hi
local macro_rules | `(tactic| k_search $t) => `(tactic| simp only [$t:term, sNext, sSeq, sAsg, sRet, sRetN, sDrop, e_if, sBreak, sCont, sAsgG, e_par, e_par3, gNm, e_set, e_setC, gList, dVar, dC, dBin, e_int2, e_add_ii, e_add_ib, e_add_ss, e_add_ll, e_add_tt, dSub, dMul, dDiv, dMod, dPow, dShl, dShr, dAnd, dOr, dXor, e_neg, dLt, dLe, dGt, dGe, e_eq_ii, e_eq_bb, e_eq_ss, e_ne_ii, e_ne_bb, e_ne_ss, e_eq_l, e_eq_sl, e_eq_t, e_eq_n, e_ne_l, e_ne_sl, e_ne_t, e_ne_n, e_chain, dTru, e_tb, e_tru_n, e_tru_b, e_tru_i, e_tru_l, e_tru_sl, e_tru_t, e_tru_d, e_andT, e_orT, dNotT, e_andV, e_orV, dNotV, e_ifE, onB_t, onB_f, onB_dec, onB_ndec, onB_not, onI_i, dNil, dCons, dTup, dLst, dLstC, dCall, dFn, dFnK, e_abs, e_max, e_min, e_int_i, e_int_b, e_len_l, e_len_sl, e_len_t, e_len_d, e_len_s, e_len_c, e_sum_l, e_ix_l, e_ix_sl, e_ix_t, e_ix_c, e_ix_s, e_ix_di, e_ix_ds, dSl, e_sl_l, e_sl_sl, e_sl_t, e_sl_s, dNoPart, e_part, iSeq, iTp, e_rng1, iRng2, sFor, sWhile, dDNew, dIsN, dIsNotN, isNon, env0,
  List.map_cons, List.map_nil, List.length_cons, List.length_nil, List.replicate, List.cons_append, List.nil_append, List.append_nil, Nat.sub_self, Nat.reduceSub, Nat.reduceAdd, List.getElem?_cons_zero, List.getElem?_cons_succ, List.set_cons_zero, List.set_cons_succ, Option.some.injEq, Co.lst.injEq, exists_eq_left', exists_eq_left, exists_and_left, List.cons.injEq, decide_eq_true_eq, true_and, and_true, decide_true, decide_false, if_true, if_false, Bool.false_eq_true, Bool.not_true, Bool.not_false, listD, intsOf_map, put_same, put_put, at0, at1, at2, at3, at4, at5, ix20, ix21, sizeLine_eq, Nat.reduceLeDiff, Int.reduceLT, Int.reduceLE, Int.reduceNeg, gt_iff_lt, ge_iff_le, Int.one_mul, wipeD, TgN.vs, List.foldr_cons, List.foldr_nil, tgSet, fStr_i, fReprD_d, e_gtp, onCel_c, onDic_d, onKey_i, onKey_s, dIxC, dInC, dNotInC, dInCN, dUpd, dFrz, dFrzD, e_isB, cellD_dic, cellD_fdic, dBits, dDNewC, Co.dic.injEq, exists_eq', eq_self, and_self, e_enum, e_zip])
local macro_rules | `(tactic| walk_at "dl") => `(tactic| k_search put_same)
local macro_rules | `(tactic| walk_at "nd") => `(tactic| (simp only [List.map_cons, List.map_nil, List.cons_append, List.nil_append, List.append_nil]; decide +kernel))
local macro_rules | `(tactic| walk_at "asm") => `(tactic| repeat (refine And.intro (by assumption) ?_))
/-! ### a contract's parts looked at -/
def plB (d : D) : Bool := plain d && SeqAt.shaped (py d)
/-- its first part may be compared -/
def tkB : D → Bool | .tup (h :: _) => plB h | _ => true
theorem wtA_mem {e : D} : ∀ {ds : List D}, e ∈ ds → wt e ≤ wtA ds
  | [], h => absurd h List.not_mem_nil
  | d :: ds, h => by
    show wt e ≤ wt d + 2 + wtA ds
    rcases List.mem_cons.mp h with rfl | h
    · omega
    · have := wtA_mem h; omega
theorem Sm.part {ds : List D} {e : D} (h : Sm (.tup ds)) (he : e ∈ ds) : Sm e := by
  refine ⟨Kd.up (k := 7) (h.k e he) (by decide), ?_⟩
  have h1 : 3 + wtA ds ≤ 190000 := h.w
  have := wtA_mem he
  omega
theorem Sm.tl {ds : List D} (h : Sm (.tup ds)) : ds.length ≤ 95000 := by
  have h1 : 3 + wtA ds ≤ 190000 := h.w
  have := len_wtA ds
  omega
def strIs (w : Str) : D → Bool | .str s => decide (s = w) | _ => false
theorem ne_txt {h : D} {w : Str} {c : Z} {R : D → Z → Prop} (p : plB h = true) (hw : SeqAt.shaped (.str w) = true) (q : R (.bl (!strIs w h)) c) : dNe h (.str w) c R := by
  obtain ⟨p1, p2⟩ := Bool.and_eq_true_iff.mp (show (plain h && SeqAt.shaped (py h)) = true from p)
  cases h <;> first | exact q | exact ⟨p1, rfl, p2, hw, q⟩
theorem eq_txt {h : D} {w : Str} {c : Z} {R : D → Z → Prop} (p : plB h = true) (hw : SeqAt.shaped (.str w) = true) (q : R (.bl (strIs w h)) c) : dEq h (.str w) c R := by
  obtain ⟨p1, p2⟩ := Bool.and_eq_true_iff.mp (show (plain h && SeqAt.shaped (py h)) = true from p)
  cases h <;> first | exact q | exact ⟨p1, rfl, p2, hw, q⟩
/-- not a tuple, or not of n parts -/
theorem te_tupN {i : Nat} {n : Int} {d : D} {c : Z} {R : Bool → Z → Prop} {T : DT} (h : kindly d) (e : c.env[i]? = some (some d)) (q0 : (∀ ds, d = .tup ds → (ds.length : Int) ≠ n) → R true c) (q1 : ∀ ds, d = .tup ds → (ds.length : Int) = n → T c R) :
    (dOrT (dNotT (dTru (dCall (fIsi "tuple") (dCons (dVar i) (dCons (dC (.ty "tuple")) dNil))))) (dOrT (dTB (dBin dNe (dCall fLen (dCons (dVar i) dNil)) (dC (.int n)))) T)) c R := by
  k_search e
  rw [isi_tuple h]
  match d, h, q0, q1 with
  | .tup ds, _, q0, q1 =>
    refine ⟨true, rfl, ?_⟩
    k_search e
    exact ite_both (fun y => q1 ds rfl y) fun y => q0 fun ds' e => by cases e; exact y
  | .non, _, q0, _ => exact ⟨false, rfl, q0 fun _ e => by cases e⟩
  | .bl b, _, q0, _ => exact ⟨false, rfl, q0 fun _ e => by cases e⟩
  | .int b, _, q0, _ => exact ⟨false, rfl, q0 fun _ e => by cases e⟩
  | .str b, _, q0, _ => exact ⟨false, rfl, q0 fun _ e => by cases e⟩
  | .lst b, _, q0, _ => exact ⟨false, rfl, q0 fun _ e => by cases e⟩
  | .slst b, _, q0, _ => exact ⟨false, rfl, q0 fun _ e => by cases e⟩
  | .dic b, _, q0, _ => exact ⟨false, rfl, q0 fun _ e => by cases e⟩
theorem te_tupN2 {i : Nat} {n : Int} {d : D} {c : Z} {R : Bool → Z → Prop} (h : kindly d) (e : c.env[i]? = some (some d)) (q0 : (∀ ds, d = .tup ds → (ds.length : Int) ≠ n) → R true c) (q1 : ∀ ds, d = .tup ds → (ds.length : Int) = n → R false c) :
    (dOrT (dNotT (dTru (dCall (fIsi "tuple") (dCons (dVar i) (dCons (dC (.ty "tuple")) dNil))))) (dTB (dBin dNe (dCall fLen (dCons (dVar i) dNil)) (dC (.int n))))) c R := by
  k_search e
  rw [isi_tuple h]
  match d, h, q0, q1 with
  | .tup ds, _, q0, q1 =>
    refine ⟨true, rfl, ?_⟩
    k_search e
    exact ite_both (fun y => q1 ds rfl y) fun y => q0 fun ds' e => by cases e; exact y
  | .non, _, q0, _ => exact ⟨false, rfl, q0 fun _ e => by cases e⟩
  | .bl b, _, q0, _ => exact ⟨false, rfl, q0 fun _ e => by cases e⟩
  | .int b, _, q0, _ => exact ⟨false, rfl, q0 fun _ e => by cases e⟩
  | .str b, _, q0, _ => exact ⟨false, rfl, q0 fun _ e => by cases e⟩
  | .lst b, _, q0, _ => exact ⟨false, rfl, q0 fun _ e => by cases e⟩
  | .slst b, _, q0, _ => exact ⟨false, rfl, q0 fun _ e => by cases e⟩
  | .dic b, _, q0, _ => exact ⟨false, rfl, q0 fun _ e => by cases e⟩
theorem ev_tupN {i : Nat} {n : Int} {d : D} {c : Z} {R : D → Z → Prop} {T : DE} (h : kindly d) (e : c.env[i]? = some (some d)) (q0 : (∀ ds, d = .tup ds → (ds.length : Int) ≠ n) → R (.bl false) c) (q1 : ∀ ds, d = .tup ds → (ds.length : Int) = n → T c R) :
    (dAndV (dCall (fIsi "tuple") (dCons (dVar i) (dCons (dC (.ty "tuple")) dNil))) (dAndV (dBin dEq (dCall fLen (dCons (dVar i) dNil)) (dC (.int n))) T)) c R := by
  k_search e
  rw [isi_tuple h]
  match d, h, q0, q1 with
  | .tup ds, _, q0, q1 =>
    k_search isTup
    k_search e
    exact ite_both (fun y => q1 ds rfl y) fun y => q0 fun ds' e => by cases e; exact y
  | .non, _, q0, _ => exact q0 fun _ e => by cases e
  | .bl b, _, q0, _ => exact q0 fun _ e => by cases e
  | .int b, _, q0, _ => exact q0 fun _ e => by cases e
  | .str b, _, q0, _ => exact q0 fun _ e => by cases e
  | .lst b, _, q0, _ => exact q0 fun _ e => by cases e
  | .slst b, _, q0, _ => exact q0 fun _ e => by cases e
  | .dic b, _, q0, _ => exact q0 fun _ e => by cases e
theorem len2 {ds : List D} (h : (ds.length : Int) = 2) : ∃ a b, ds = [a, b] := by
  match ds, h with
  | [a, b], _ => exact ⟨a, b, rfl⟩
  | [], h => simp at h
  | [_], h => simp at h
  | _ :: _ :: _ :: r, h => simp at h; omega
theorem len3 {ds : List D} (h : (ds.length : Int) = 3) : ∃ a b c, ds = [a, b, c] := by
  match ds, h with
  | [a, b, c], _ => exact ⟨a, b, c, rfl⟩
  | [], h => simp at h
  | [_], h => simp at h
  | [_, _], h => simp at h
  | _ :: _ :: _ :: _ :: r, h => simp at h; omega
def sem_p_is_many : Sem := fun ds cs R => ∃ d, ds = [d] ∧ kindly d ∧ R (.bl (inB 1 8 d)) cs
theorem len_p_is_many : ∀ ds cs R, sem_p_is_many ds cs R → ds.length = 1 := by rintro ds cs R ⟨d, rfl, _⟩; rfl
def ex_p_is_many_1 : DE :=
  (dChain dLe dLe (dC (.int 1)) (dVar 0) (dC (.int 8)))
def ex_p_is_many_2 : DE :=
  (dAndV (dFn 1 sem_p_is_whole (fun ds _ => ds) (dCons (dVar 0) dNil)) ex_p_is_many_1)
/-- is_many: slots 0=thing -/
def den_p_is_many : DS :=
  (sRet ex_p_is_many_2)
theorem okd_p_is_many : ∀ ds cs R, sem_p_is_many ds cs R → den_p_is_many { nx := fun c => R .non c.cs, rt := R } ⟨env0 1 ds, cs⟩ := by
  rintro ds cs R ⟨d, rfl, h, q⟩
  unfold den_p_is_many ex_p_is_many_2 ex_p_is_many_1
  k_search sem_p_is_whole
  refine ⟨h, ?_⟩
  cases hw : wholeD d with
  | false =>
    rw [inB_no hw] at q
    exact q
  | true =>
    obtain ⟨i, rfl⟩ := whole_is hw
    walk_at "dl"
    exact dec_and (A := fun b => R (.bl b) cs) q
/-! #### bounds -/
def leD : D → D → Bool | .int a, .int b => decide (a ≤ b) | _, _ => false
def bdsB : D → Bool | .tup [h, a, b] => strIs "number" h && (inB 0 65535 a && (inB 0 65535 b && leD a b)) | _ => false
theorem bds_no {d : D} (h : ∀ ds, d = .tup ds → (ds.length : Int) ≠ 3) : bdsB d = false := by
  unfold bdsB
  split
  · exact absurd rfl (h _ rfl)
  · rfl
theorem inB_int {a b : Int} {d : D} (h : inB a b d = true) : ∃ i, d = .int i ∧ a ≤ i ∧ i ≤ b := by
  cases d <;> first | cases h | skip
  rename_i i
  obtain ⟨h1, h2⟩ := Bool.and_eq_true_iff.mp (show (decide (a ≤ i) && decide (i ≤ b)) = true from h)
  exact ⟨i, rfl, of_decide_eq_true h1, of_decide_eq_true h2⟩
def sem_p_are_bounds : Sem := fun ds cs R => ∃ d, ds = [d] ∧ Sm d ∧ tkB d = true ∧ R (.bl (bdsB d)) cs
theorem len_p_are_bounds : ∀ ds cs R, sem_p_are_bounds ds cs R → ds.length = 1 := by rintro ds cs R ⟨d, rfl, _⟩; rfl
def te_p_are_bounds_1 : DT :=
  (dOrT (dNotT (dTru (dCall (fIsi "tuple") (dCons (dVar 0) (dCons (dC (.ty "tuple")) dNil))))) (dOrT (dTB (dBin dNe (dCall fLen (dCons (dVar 0) dNil)) (dC (.int 3)))) (dTB (dBin dNe (dBin dIxF (dVar 0) (dC (.int 0))) (dC (.str "number"))))))
def ex_p_are_bounds_1 : DE :=
  (dAndV (dFn 1 sem_p_is_worth (fun ds _ => ds ++ [.int 16]) (dCons (dBin dIxF (dVar 0) (dC (.int 1))) dNil)) (dAndV (dFn 1 sem_p_is_worth (fun ds _ => ds ++ [.int 16]) (dCons (dBin dIxF (dVar 0) (dC (.int 2))) dNil)) (dBin dLe (dBin dIxF (dVar 0) (dC (.int 1))) (dBin dIxF (dVar 0) (dC (.int 2))))))
/-- are_bounds: slots 0=thing -/
def den_p_are_bounds : DS :=
  (sSeq (sIf te_p_are_bounds_1 (sRet (dC (.bl false))) sNext)
    (sRet ex_p_are_bounds_1))
theorem okd_p_are_bounds : ∀ ds cs R, sem_p_are_bounds ds cs R → den_p_are_bounds { nx := fun c => R .non c.cs, rt := R } ⟨env0 1 ds, cs⟩ := by
  rintro ds cs R ⟨d, rfl, h, hk, q⟩
  unfold den_p_are_bounds te_p_are_bounds_1
  simp only [sSeq, e_if]
  refine te_tupN h.ky (by rfl) (fun z => by rw [bds_no z] at q; exact q) fun ds e hl => ?_
  subst e
  obtain ⟨x, a, b, rfl⟩ := len3 hl
  have ha := (h.part (e := a) (by simp)).ky
  have hb := (h.part (e := b) (by simp)).ky
  k_search at0
  refine ne_txt hk (by decide +kernel) ?_
  have q' : R (.bl (strIs "number" x && (inB 0 65535 a && (inB 0 65535 b && leD a b)))) cs := q
  cases hx : strIs "number" x with
  | false =>
    rw [hx] at q'
    exact q'
  | true =>
    rw [hx] at q'
    unfold ex_p_are_bounds_1
    k_search sem_p_is_worth
    rw [worth16, worth16]
    refine ⟨ha, ?_⟩
    cases h1 : inB 0 65535 a with
    | false => rw [h1] at q'; exact q'
    | true =>
      rw [h1] at q'
      refine ⟨hb, ?_⟩
      cases h2 : inB 0 65535 b with
      | false => rw [h2] at q'; exact q'
      | true =>
        rw [h2] at q'
        obtain ⟨i, rfl, _⟩ := inB_int h1
        obtain ⟨j, rfl, _⟩ := inB_int h2
        exact ⟨trivial, q'⟩
/-! #### of a shelf -/
def ofB (w : Str) (f : Str → Bool) : D → Bool | .tup [h, .str s] => strIs w h && (nameB (.str s) && f s) | _ => false
theorem of_no {w : Str} {f : Str → Bool} {d : D} (h : ∀ ds, d = .tup ds → (ds.length : Int) ≠ 2) : ofB w f d = false := by
  unfold ofB
  split
  · exact absurd rfl (h _ rfl)
  · rfl
theorem of_nstr {w : Str} {f : Str → Bool} {h x : D} (hx : isStr x = false) : ofB w f (.tup [h, x]) = false := by cases x <;> first | rfl | cases hx
theorem of_nh {w : Str} {f : Str → Bool} {h x : D} (hx : strIs w h = false) : ofB w f (.tup [h, x]) = false := by
  cases x <;> first | rfl | (show (strIs w h && _) = false; rw [hx]; rfl)
theorem name_str {x : D} (h : nameB x = true) : ∃ s, x = .str s := by cases x <;> first | exact ⟨_, rfl⟩ | cases h
def inK (kvs : List (L2.Key × D)) (s : Str) : Bool := (lookD kvs (.inr s)).isSome
def sem_p_is_of_shelf : Sem := fun ds cs R => ∃ d w kvs, ds = [d, .str w, .dic kvs] ∧ Sm d ∧ tkB d = true ∧ SeqAt.shaped (.str w) = true ∧ R (.bl (ofB w (inK kvs) d)) cs
theorem len_p_is_of_shelf : ∀ ds cs R, sem_p_is_of_shelf ds cs R → ds.length = 3 := by rintro ds cs R ⟨d, _, _, rfl, _⟩; rfl
def te_p_is_of_shelf_1 : DT :=
  (dOrT (dNotT (dTru (dCall (fIsi "tuple") (dCons (dVar 0) (dCons (dC (.ty "tuple")) dNil))))) (dOrT (dTB (dBin dNe (dCall fLen (dCons (dVar 0) dNil)) (dC (.int 2)))) (dTB (dBin dNe (dBin dIxF (dVar 0) (dC (.int 0))) (dVar 1)))))
def ex_p_is_of_shelf_1 : DE :=
  (dAndV (dFn 1 sem_p_is_name (fun ds _ => ds) (dCons (dBin dIxF (dVar 0) (dC (.int 1))) dNil)) (dBin dInF (dBin dIxF (dVar 0) (dC (.int 1))) (dVar 2)))
/-- is_of_shelf: slots 0=thing 1=word 2=sizes -/
def den_p_is_of_shelf : DS :=
  (sSeq (sIf te_p_is_of_shelf_1 (sRet (dC (.bl false))) sNext)
    (sRet ex_p_is_of_shelf_1))
theorem okd_p_is_of_shelf : ∀ ds cs R, sem_p_is_of_shelf ds cs R → den_p_is_of_shelf { nx := fun c => R .non c.cs, rt := R } ⟨env0 3 ds, cs⟩ := by
  rintro ds cs R ⟨d, w, kvs, rfl, h, hk, hw, q⟩
  unfold den_p_is_of_shelf te_p_is_of_shelf_1
  simp only [sSeq, e_if]
  refine te_tupN h.ky (by rfl) (fun z => by rw [of_no z] at q; exact q) fun ds e hl => ?_
  subst e
  obtain ⟨x, a, rfl⟩ := len2 hl
  have ha := h.part (e := a) (by simp)
  k_search at0
  refine ne_txt hk hw ?_
  cases hx : strIs w x with
  | false => rw [of_nh hx] at q; exact q
  | true =>
    show ex_p_is_of_shelf_1 _ _
    unfold ex_p_is_of_shelf_1
    k_search sem_p_is_name
    refine ⟨ha, ?_⟩
    cases hn : nameB a with
    | false =>
      have : ofB w (inK kvs) (.tup [x, a]) = false := by
        cases a <;> first | rfl | (show (_ && (nameB _ && _)) = false; rw [hn, Bool.false_and, Bool.and_false])
      rw [this] at q
      exact q
    | true =>
      obtain ⟨s, rfl⟩ := name_str hn
      have q' : R (.bl (strIs w x && (nameB (.str s) && inK kvs s))) cs := q
      rw [hx, hn] at q'
      unfold dInF dInFN
      walk_at "dl"
      exact q'
/-! #### what is taken -/
def celB : D → Bool | .tup [h, n] => strIs "cells" h && inB 1 8 n | _ => false
theorem cel_no {d : D} (h : ∀ ds, d = .tup ds → (ds.length : Int) ≠ 2) : celB d = false := by
  unfold celB
  split
  · exact absurd rfl (h _ rfl)
  · rfl
def takB (f : Str → Bool) (d : D) : Bool := bdsB d || (ofB "room" f d || celB d)
def sem_p_is_take : Sem := fun ds cs R => ∃ d kvs, ds = [d, .dic kvs] ∧ Sm d ∧ tkB d = true ∧ R (.bl (takB (inK kvs) d)) cs
theorem len_p_is_take : ∀ ds cs R, sem_p_is_take ds cs R → ds.length = 2 := by rintro ds cs R ⟨d, _, rfl, _⟩; rfl
def te_p_is_take_1 : DT :=
  (dOrT (dTru (dFn 1 sem_p_are_bounds (fun ds _ => ds) (dCons (dVar 0) dNil))) (dTru (dFn 3 sem_p_is_of_shelf (fun ds _ => ds) (dCons (dVar 0) (dCons (dC (.str "room")) (dCons (dVar 1) dNil))))))
def ex_p_is_take_1 : DE :=
  (dAndV (dCall (fIsi "tuple") (dCons (dVar 0) (dCons (dC (.ty "tuple")) dNil))) (dAndV (dBin dEq (dCall fLen (dCons (dVar 0) dNil)) (dC (.int 2))) (dAndV (dBin dEq (dBin dIxF (dVar 0) (dC (.int 0))) (dC (.str "cells"))) (dFn 1 sem_p_is_many (fun ds _ => ds) (dCons (dBin dIxF (dVar 0) (dC (.int 1))) dNil)))))
/-- is_take: slots 0=thing 1=sizes -/
def den_p_is_take : DS :=
  (sSeq (sIf te_p_is_take_1 (sRet (dC (.bl true))) sNext)
    (sRet ex_p_is_take_1))
theorem okd_p_is_take : ∀ ds cs R, sem_p_is_take ds cs R → den_p_is_take { nx := fun c => R .non c.cs, rt := R } ⟨env0 2 ds, cs⟩ := by
  rintro ds cs R ⟨d, kvs, rfl, h, hk, q⟩
  unfold den_p_is_take te_p_is_take_1
  unfold takB at q
  k_search sem_p_are_bounds
  refine ⟨h, hk, ?_⟩
  cases h1 : bdsB d with
  | true => rw [h1] at q; exact iteT' rfl q
  | false =>
    rw [h1] at q
    refine iteF' (by decide) ⟨d, _, kvs, rfl, h, hk, by decide +kernel, _, rfl, ?_⟩
    cases h2 : ofB "room" (inK kvs) d with
    | true => rw [h2] at q; exact q
    | false =>
      rw [h2] at q
      refine iteF' (by decide) ?_
      unfold ex_p_is_take_1
      refine ev_tupN h.ky (by rfl) (fun z => by rw [cel_no z] at q; exact q) fun ds e hl => ?_
      subst e
      obtain ⟨x, a, rfl⟩ := len2 hl
      have ha := (h.part (e := a) (by simp)).ky
      k_search at0
      refine eq_txt hk (by decide +kernel) ?_
      have q' : R (.bl (strIs "cells" x && inB 1 8 a)) cs := q
      cases hx : strIs "cells" x with
      | false => rw [hx] at q'; exact q'
      | true =>
        rw [hx] at q'
        k_search sem_p_is_many
        exact ⟨ha, q'⟩
/-! #### what is given -/
def hd : D → Str | .tup (.str s :: _) => s | _ => ""
def isBack : D → Bool | .tup [.str s] => decide (s = "back") | _ => false
def headIs (w : Str) : List D → Bool | t :: _ => decide (hd t = w) | [] => false
def cntR (ts : List D) : Nat := ts.countP fun t => decide (hd t = "room")
def givB (f : Str → Bool) (ts : List D) (g : D) : Bool := if isBack g = true then decide (cntR ts = 1) && headIs "room" ts else if ofB "lent" f g = true then headIs "number" ts else bdsB g
/-- its first part is a text -/
def hdS : D → Bool | .tup (.str _ :: _) => true | _ => false
/-- its first part is a text, or it is of plain parts -/
def gvB (g : D) : Bool := tkB g && (hdS g || plB g)
theorem strIs_str {w : Str} {h : D} (e : strIs w h = true) : ∃ s, h = .str s ∧ s = w := by cases h <;> first | exact ⟨_, rfl, of_decide_eq_true e⟩ | cases e
theorem bds_hd {d : D} (h : bdsB d = true) : hdS d = true := by
  unfold bdsB at h
  split at h
  · obtain ⟨s, rfl, _⟩ := strIs_str (Bool.and_eq_true_iff.mp h).1; rfl
  · cases h
theorem of_hd {w : Str} {f : Str → Bool} {d : D} (h : ofB w f d = true) : hdS d = true := by
  unfold ofB at h
  split at h
  · obtain ⟨s, rfl, _⟩ := strIs_str (Bool.and_eq_true_iff.mp h).1; rfl
  · cases h
theorem cel_hd {d : D} (h : celB d = true) : hdS d = true := by
  unfold celB at h
  split at h
  · obtain ⟨s, rfl, _⟩ := strIs_str (Bool.and_eq_true_iff.mp h).1; rfl
  · cases h
theorem tak_hd {f : Str → Bool} {d : D} (h : takB f d = true) : hdS d = true := by
  unfold takB at h
  rcases Bool.or_eq_true_iff.mp h with h | h
  · exact bds_hd h
  · rcases Bool.or_eq_true_iff.mp h with h | h
    · exact of_hd h
    · exact cel_hd h
theorem hdS_is {d : D} (h : hdS d = true) : ∃ s r, d = .tup (.str s :: r) := by
  unfold hdS at h
  split at h
  · exact ⟨_, _, rfl⟩
  · cases h
theorem eqv_no {g : D} (h : isBack g = false) (p : plB g = true) : PyData.eqv (py g) (py (.tup [.str "back"])) = false := by
  cases g <;> first | rfl | skip
  rename_i ds
  match ds, h with
  | [], _ => rfl
  | x :: y :: r, _ =>
    show (_ && (false)) = false
    rw [Bool.and_false]
  | [x], h =>
    cases x <;> first | rfl | skip
    show ((_ == _) && true) = false
    rw [Bool.and_true]
    exact beq_false_of_ne (of_decide_eq_false h)
theorem back_hd {g : D} (h : hdS g = false) : isBack g = false := by
  unfold isBack
  split
  · cases h
  · rfl
theorem eq_back {g : D} {c : Z} {R : D → Z → Prop} (h : gvB g = true) (q : R (.bl (isBack g)) c) : dEqW g (.tup [.str "back"]) c R := by
  obtain ⟨_, h2⟩ := Bool.and_eq_true_iff.mp (show (tkB g && (hdS g || plB g)) = true from h)
  cases hh : hdS g with
  | true =>
    obtain ⟨s, r, rfl⟩ := hdS_is hh
    show R (.bl (decide (s = "back") && r.isEmpty)) c
    cases r with
    | nil => rw [show (decide (s = ("back" : Str)) && ([] : List D).isEmpty) = decide (s = "back") from Bool.and_true _]; exact q
    | cons y r => rw [show (decide (s = ("back" : Str)) && (y :: r).isEmpty) = false from Bool.and_false _]; exact q
  | false =>
    rw [hh, Bool.false_or] at h2
    have hb := back_hd hh
    rw [hb] at q
    have e := eqv_no hb h2
    obtain ⟨p1, p2⟩ := Bool.and_eq_true_iff.mp (show (plain g && SeqAt.shaped (py g)) = true from h2)
    have sh : SeqAt.shaped (py (.tup [.str "back"])) = true := by decide +kernel
    have tn : ∀ {x : D}, D.tup [.str "back"] = x → (∀ l, x ≠ .tup l) → False := fun e z => z _ e.symm
    unfold dEqW
    split
    · exact (tn (by assumption) fun _ z => by cases z).elim
    · cases hh
    · unfold dEq
      split
      · exact (tn (by assumption) fun _ z => by cases z).elim
      · exact (tn (by assumption) fun _ z => by cases z).elim
      · exact (tn (by assumption) fun _ z => by cases z).elim
      · exact ⟨p1, rfl, p2, sh, by rw [e]; exact q⟩
def sem_p_is_given : Sem := fun ds cs R => ∃ g ts kvs, ds = [g, .tup ts, .dic kvs] ∧ Sm g ∧ gvB g = true ∧ ts.length ≤ 3 ∧ (∀ t ∈ ts, hdS t = true) ∧ R (.bl (givB (inK kvs) ts g)) cs
theorem len_p_is_given : ∀ ds cs R, sem_p_is_given ds cs R → ds.length = 3 := by rintro ds cs R ⟨_, _, _, rfl, _⟩; rfl
def ex_p_is_given_1 : DE :=
  (dLc (iTp (dVar 1)) (.one 3) dYes (dBin dIxF (dVar 3) (dC (.int 0))))
def ex_p_is_given_2 : DE :=
  (dAndV (dBin dEq (dCnt ex_p_is_given_1 (dC (.str "room"))) (dC (.int 1))) (dBin dEq (dBin dIxF (dBin dIxF (dVar 1) (dC (.int 0))) (dC (.int 0))) (dC (.str "room"))))
def ex_p_is_given_3 : DE :=
  (dAndV (dBin dNeNil (dVar 1) (dTup dNil)) (dBin dEq (dBin dIxF (dBin dIxF (dVar 1) (dC (.int 0))) (dC (.int 0))) (dC (.str "number"))))
/-- is_given: slots 0=thing 1=takes 2=sizes 3=take -/
def den_p_is_given : DS :=
  (sSeq (sIf (dTB (dBin dEqW (dVar 0) (dTup (dCons (dC (.str "back")) dNil)))) (sRet ex_p_is_given_2) sNext)
    (sSeq (sIf (dTru (dFn 3 sem_p_is_of_shelf (fun ds _ => ds) (dCons (dVar 0) (dCons (dC (.str "lent")) (dCons (dVar 2) dNil))))) (sRet ex_p_is_given_3) sNext)
    (sRet (dFn 1 sem_p_are_bounds (fun ds _ => ds) (dCons (dVar 0) dNil)))))
/-- the first parts of takes -/
theorem lc_heads {k i j : Nat} {env : List (Option D)} {ts : List D} {R : List D → Cells → Prop} {cs : Cells} (hk : cs k = none) (hl : ts.length ≤ 100) (ht : ∀ t ∈ ts, hdS t = true) (he : ∀ d, (env.set i (some d))[j]? = some (some d)) (q : R (ts.map fun t => .str (hd t)) cs) :
    lcGo k (.one i) dYes (dBin dIxF (dVar j) (dC (.int 0))) env ts [] cs R := by
  refine lc_plain (b := fun _ => true) (f := fun t => .str (hd t)) hk (fun t hm => ?_) (by rw [sizeLine_eq]; simp; omega) (by rw [show ts.filter (fun _ => true) = ts from List.filter_eq_self.mpr fun _ _ => rfl, List.nil_append]; exact q)
  obtain ⟨s, r, rfl⟩ := hdS_is (ht t hm)
  refine ⟨_, rfl, fun cs Q h => h, fun _ cs Q h => ?_⟩
  k_search he
  all_goals exact h
theorem cnt_heads (ts : List D) : ((ts.map fun t => D.str (hd t)).countP fun d => eqF d (.str "room")) = cntR ts := by
  rw [List.countP_map]
  unfold cntR
  congr 1
theorem okd_p_is_given : ∀ ds cs R, sem_p_is_given ds cs R → den_p_is_given { nx := fun c => R .non c.cs, rt := R } ⟨env0 4 ds, cs⟩ := by
  rintro ds cs R ⟨g, ts, kvs, rfl, h, hg, hl, ht, q⟩
  unfold den_p_is_given
  k_search isTup
  refine eq_back hg ?_
  unfold givB at q
  have head : ∀ (w : Str) (c : Z) (Q : D → Z → Prop), ts ≠ [] → Q (.bl (headIs w ts)) c → ∃ d, L2.atI ts 0 = some d ∧ dIxF d (.int 0) c fun x c1 => dEq x (.str w) c1 Q := by
    intro w c Q hn hq
    obtain ⟨t, r, rfl⟩ := List.exists_cons_of_ne_nil hn
    obtain ⟨s, r', rfl⟩ := hdS_is (ht t List.mem_cons_self)
    exact ⟨_, at0, _, at0, hq⟩
  cases hb : isBack g with
  | true =>
    rw [hb, if_pos rfl] at q
    show ex_p_is_given_2 _ _
    unfold ex_p_is_given_2 ex_p_is_given_1 dCnt dLc
    k_search isTup
    refine ⟨_, rfl, fun k hk => lc_heads hk (Nat.le_trans hl (by decide)) ht (fun _ => rfl) ⟨_, rfl, rfl, ?_, ?_⟩⟩
    · rw [List.all_map]; exact List.all_eq_true.mpr fun _ _ => rfl
    · rw [cnt_heads]
      refine ite_both (fun z => ?_) fun z => ?_
      · have z' : cntR ts = 1 := by omega
        rw [z', decide_eq_true rfl, Bool.true_and] at q
        have hn : ts ≠ [] := fun e => by rw [e] at z'; cases z'
        exact head "room" _ (fun d c1 => R d c1.cs) hn q
      · have z' : ¬ cntR ts = 1 := by omega
        rw [decide_eq_false z', Bool.false_and] at q
        exact q
  | false =>
    rw [hb, if_neg (by decide)] at q
    k_search isTup
    refine ⟨_, _, kvs, rfl, h, (Bool.and_eq_true_iff.mp (show (tkB g && (hdS g || plB g)) = true from hg)).1, by decide +kernel, _, rfl, ?_⟩
    refine ite_both (fun z => ?_) fun z => ?_
    · rw [if_pos z] at q
      unfold ex_p_is_given_3
      simp only [e_andV]
      refine ⟨_, rfl, Nat.zero_le _, ?_⟩
      match ts, q, head with
      | [], q, _ => exact q
      | t :: r, q, head => exact ⟨_, rfl, head "number" _ (fun d c1 => R d c1.cs) (fun e => by cases e) q⟩
    · rw [if_neg z] at q
      exact ⟨_, rfl, h, (Bool.and_eq_true_iff.mp (show (tkB g && (hdS g || plB g)) = true from hg)).1, q⟩
local macro_rules | `(tactic| k_search $t) => `(tactic| simp only [$t:term, sNext, sSeq, sAsg, sRet, sRetN, sDrop, e_if, sBreak, sCont, sAsgG, e_par, e_par3, gNm, e_set, e_setC, gList, dVar, dC, dBin, e_int2, e_add_ii, e_add_ib, e_add_ss, e_add_ll, e_add_tt, dSub, dMul, dDiv, dMod, dPow, dShl, dShr, dAnd, dOr, dXor, e_neg, dLt, dLe, dGt, dGe, e_eq_ii, e_eq_bb, e_eq_ss, e_ne_ii, e_ne_bb, e_ne_ss, e_eq_l, e_eq_sl, e_eq_t, e_eq_n, e_ne_l, e_ne_sl, e_ne_t, e_ne_n, e_chain, dTru, e_tb, e_tru_n, e_tru_b, e_tru_i, e_tru_l, e_tru_sl, e_tru_t, e_tru_d, e_andT, e_orT, dNotT, e_andV, e_orV, dNotV, e_ifE, onB_t, onB_f, onB_dec, onB_ndec, onB_not, onI_i, dNil, dCons, dTup, dLst, dLstC, dCall, dFn, dFnK, e_abs, e_max, e_min, e_int_i, e_int_b, e_len_l, e_len_sl, e_len_t, e_len_d, e_len_s, e_len_c, e_sum_l, e_ix_l, e_ix_sl, e_ix_t, e_ix_c, e_ix_s, e_ix_di, e_ix_ds, dSl, e_sl_l, e_sl_sl, e_sl_t, e_sl_s, dNoPart, e_part, iSeq, iTp, e_rng1, iRng2, sFor, sWhile, dDNew, dIsN, dIsNotN, isNon, env0,
  List.map_cons, List.map_nil, List.length_cons, List.length_nil, List.replicate, List.cons_append, List.nil_append, List.append_nil, Nat.sub_self, Nat.reduceSub, Nat.reduceAdd, List.getElem?_cons_zero, List.getElem?_cons_succ, List.set_cons_zero, List.set_cons_succ, Option.some.injEq, Co.lst.injEq, exists_eq_left', exists_eq_left, exists_and_left, List.cons.injEq, decide_eq_true_eq, true_and, and_true, decide_true, decide_false, if_true, if_false, Bool.false_eq_true, Bool.not_true, Bool.not_false, listD, intsOf_map, put_same, put_put, at0, at1, at2, at3, at4, at5, ix20, ix21, sizeLine_eq, Nat.reduceLeDiff, Int.reduceLT, Int.reduceLE, Int.reduceNeg, gt_iff_lt, ge_iff_le, Int.one_mul, wipeD, TgN.vs, List.foldr_cons, List.foldr_nil, tgSet, fStr_i, fReprD_d, e_gtp, onCel_c, onDic_d, onKey_i, onKey_s, dIxC, dInC, dNotInC, dInCN, dUpd, dFrz, dFrzD, e_isB, cellD_dic, cellD_fdic, dBits, dDNewC, Co.dic.injEq, exists_eq', eq_self, and_self, e_enum, e_zip])
local macro_rules | `(tactic| walk_at "dl") => `(tactic| k_search put_same)
local macro_rules | `(tactic| walk_at "nd") => `(tactic| (simp only [List.map_cons, List.map_nil, List.cons_append, List.nil_append, List.append_nil]; decide +kernel))
local macro_rules | `(tactic| walk_at "asm") => `(tactic| repeat (refine And.intro (by assumption) ?_))
/-! ### a call, a shelf -/
def itB : D → Bool | .tup [_, .tup ts, g] => ts.all tkB && gvB g | _ => true
def calB (f : Str → Bool) : D → Bool | .tup [a, .tup ts, g] => nameB a && (decide (ts.length ≤ 3) && (ts.all (takB f) && givB f ts g)) | _ => false
def shlB : D → Bool | .tup [a, n] => nameB a && inB 1 8 n | _ => false
theorem cal_no {f : Str → Bool} {d : D} (h : ∀ ds, d = .tup ds → (ds.length : Int) ≠ 3) : calB f d = false := by
  unfold calB
  split
  · exact absurd rfl (h _ rfl)
  · rfl
theorem shl_no {d : D} (h : ∀ ds, d = .tup ds → (ds.length : Int) ≠ 2) : shlB d = false := by
  unfold shlB
  split
  · exact absurd rfl (h _ rfl)
  · rfl
theorem cal_nm {f : Str → Bool} {a t g : D} (h : nameB a = false) : calB f (.tup [a, t, g]) = false := by
  cases t <;> first | rfl | (show (nameB a && _) = false; rw [h]; rfl)
theorem lc_takes {k i j : Nat} {env : List (Option D)} {kvs : List (L2.Key × D)} {ts : List D} {R : List D → Cells → Prop} {cs : Cells} (hk : cs k = none) (hl : ts.length ≤ 3) (ht : ∀ t ∈ ts, Sm t ∧ tkB t = true) (he : ∀ d, (env.set i (some d))[i]? = some (some d)) (hj : ∀ d, (env.set i (some d))[j]? = some (some (.dic kvs))) (q : R (ts.map fun t => .bl (takB (inK kvs) t)) cs) :
    lcGo k (.one i) dYes (dFn 2 sem_p_is_take (fun ds _ => ds) (dCons (dVar i) (dCons (dVar j) dNil))) env ts [] cs R := by
  refine lc_plain (b := fun _ => true) (f := fun t => .bl (takB (inK kvs) t)) hk (fun t hm => ?_) (by rw [sizeLine_eq]; simp; omega) (by rw [show ts.filter (fun _ => true) = ts from List.filter_eq_self.mpr fun _ _ => rfl, List.nil_append]; exact q)
  refine ⟨_, rfl, fun cs Q h => h, fun _ cs Q h => ?_⟩
  exact ⟨_, he t, _, hj t, rfl, _, kvs, rfl, (ht t hm).1, (ht t hm).2, h⟩
def sem_p_is_call : Sem := fun ds cs R => ∃ d kvs, ds = [d, .dic kvs] ∧ Sm d ∧ itB d = true ∧ R (.bl (calB (inK kvs) d)) cs
theorem len_p_is_call : ∀ ds cs R, sem_p_is_call ds cs R → ds.length = 2 := by rintro ds cs R ⟨_, _, rfl, _⟩; rfl
def te_p_is_call_1 : DT :=
  (dOrT (dNotT (dTru (dCall (fIsi "tuple") (dCons (dVar 0) (dCons (dC (.ty "tuple")) dNil))))) (dOrT (dTB (dBin dNe (dCall fLen (dCons (dVar 0) dNil)) (dC (.int 3)))) (dNotT (dTru (dFn 1 sem_p_is_name (fun ds _ => ds) (dCons (dBin dIxF (dVar 0) (dC (.int 0))) dNil))))))
def te_p_is_call_2 : DT :=
  (dOrT (dNotT (dTru (dCall (fIsi "tuple") (dCons (dBin dIxF (dVar 0) (dC (.int 1))) (dCons (dC (.ty "tuple")) dNil))))) (dTB (dBin dGt (dCall fLen (dCons (dBin dIxF (dVar 0) (dC (.int 1))) dNil)) (dC (.int 3)))))
def ex_p_is_call_1 : DE :=
  (dLc (iTp (dBin dIxF (dVar 0) (dC (.int 1)))) (.one 2) dYes (dFn 2 sem_p_is_take (fun ds _ => ds) (dCons (dVar 2) (dCons (dVar 1) dNil))))
def ex_p_is_call_2 : DE :=
  (dAndV (dCall fAll (dCons ex_p_is_call_1 dNil)) (dFn 3 sem_p_is_given (fun ds _ => ds) (dCons (dBin dIxF (dVar 0) (dC (.int 2))) (dCons (dBin dIxF (dVar 0) (dC (.int 1))) (dCons (dVar 1) dNil)))))
/-- is_call: slots 0=thing 1=sizes 2=take -/
def den_p_is_call : DS :=
  (sSeq (sIf te_p_is_call_1 (sRet (dC (.bl false))) sNext)
    (sSeq (sIf te_p_is_call_2 (sRet (dC (.bl false))) sNext)
    (sRet ex_p_is_call_2)))
theorem okd_p_is_call : ∀ ds cs R, sem_p_is_call ds cs R → den_p_is_call { nx := fun c => R .non c.cs, rt := R } ⟨env0 3 ds, cs⟩ := by
  rintro ds cs R ⟨d, kvs, rfl, h, hi, q⟩
  unfold den_p_is_call te_p_is_call_1
  simp only [sSeq, e_if]
  refine te_tupN h.ky (by rfl) (fun z => by rw [cal_no z] at q; exact q) fun ds e hl => ?_
  subst e
  obtain ⟨a, t, g, rfl⟩ := len3 hl
  have ha := h.part (e := a) (by simp)
  have ht := h.part (e := t) (by simp)
  have hg := h.part (e := g) (by simp)
  k_search sem_p_is_name
  refine ⟨ha, ?_⟩
  cases hn : nameB a with
  | false => rw [cal_nm hn] at q; exact q
  | true =>
    show te_p_is_call_2 _ _
    unfold te_p_is_call_2
    k_search at1
    rw [isi_tuple ht.ky]
    match t, ht, hi, q with
    | .tup ts, ht, hi, q =>
      have q' : R (.bl (nameB a && (decide (ts.length ≤ 3) && (ts.all (takB (inK kvs)) && givB (inK kvs) ts g)))) cs := q
      rw [hn, Bool.true_and] at q'
      obtain ⟨hi1, hi2⟩ := Bool.and_eq_true_iff.mp (show (ts.all tkB && gvB g) = true from hi)
      refine ⟨true, rfl, ?_⟩
      k_search at1
      refine ite_both (fun z => ?_) fun z => ?_
      · rw [decide_eq_false (show ¬ ts.length ≤ 3 by omega), Bool.false_and] at q'
        exact q'
      · have h3 : ts.length ≤ 3 := by omega
        rw [decide_eq_true h3, Bool.true_and] at q'
        unfold ex_p_is_call_2 ex_p_is_call_1 dLc
        k_search at1
        refine ⟨_, rfl, fun k hk => lc_takes hk h3 (fun t hm => ⟨ht.part hm, List.all_eq_true.mp hi1 t hm⟩) (fun _ => rfl) (fun _ => rfl) ?_⟩
        refine ⟨_, ts.map (takB (inK kvs)), rfl, by rw [List.map_map]; rfl, ?_⟩
        rw [List.all_map]
        show onB (.bl (ts.all (takB (inK kvs)))) _ _
        cases hA : ts.all (takB (inK kvs)) with
        | false => rw [hA] at q'; exact q'
        | true =>
          rw [hA] at q'
          exact ⟨_, rfl, _, at2, _, rfl, _, at1, _, rfl, g, ts, kvs, rfl, hg, hi2, h3, fun t hm => tak_hd (List.all_eq_true.mp hA t hm), q'⟩
    | .non, _, _, q => exact ⟨false, rfl, q⟩
    | .bl b, _, _, q => exact ⟨false, rfl, q⟩
    | .int b, _, _, q => exact ⟨false, rfl, q⟩
    | .str b, _, _, q => exact ⟨false, rfl, q⟩
    | .lst b, _, _, q => exact ⟨false, rfl, q⟩
    | .dic b, _, _, q => exact ⟨false, rfl, q⟩
def sem_p_is_shelf : Sem := fun ds cs R => ∃ d, ds = [d] ∧ Sm d ∧ R (.bl (shlB d)) cs
theorem len_p_is_shelf : ∀ ds cs R, sem_p_is_shelf ds cs R → ds.length = 1 := by rintro ds cs R ⟨_, rfl, _⟩; rfl
def ex_p_is_shelf_1 : DE :=
  (dAndV (dCall (fIsi "tuple") (dCons (dVar 0) (dCons (dC (.ty "tuple")) dNil))) (dAndV (dBin dEq (dCall fLen (dCons (dVar 0) dNil)) (dC (.int 2))) (dAndV (dFn 1 sem_p_is_name (fun ds _ => ds) (dCons (dBin dIxF (dVar 0) (dC (.int 0))) dNil)) (dFn 1 sem_p_is_many (fun ds _ => ds) (dCons (dBin dIxF (dVar 0) (dC (.int 1))) dNil)))))
/-- is_shelf: slots 0=thing -/
def den_p_is_shelf : DS :=
  (sRet ex_p_is_shelf_1)
theorem okd_p_is_shelf : ∀ ds cs R, sem_p_is_shelf ds cs R → den_p_is_shelf { nx := fun c => R .non c.cs, rt := R } ⟨env0 1 ds, cs⟩ := by
  rintro ds cs R ⟨d, rfl, h, q⟩
  unfold den_p_is_shelf ex_p_is_shelf_1
  simp only [sRet]
  refine ev_tupN h.ky (by rfl) (fun z => by rw [shl_no z] at q; exact q) fun ds e hl => ?_
  subst e
  obtain ⟨a, n, rfl⟩ := len2 hl
  have ha := h.part (e := a) (by simp)
  have hn := h.part (e := n) (by simp)
  have q' : R (.bl (nameB a && inB 1 8 n)) cs := q
  k_search sem_p_is_name
  refine ⟨ha, ?_⟩
  cases h1 : nameB a with
  | false => rw [h1] at q'; exact q'
  | true =>
    rw [h1] at q'
    k_search sem_p_is_many
    exact ⟨hn.ky, q'⟩
/-! ### the law's own -/
def sem_l_is_shelf : Sem := fun ds cs R => ∃ d, ds = [d] ∧ Sm d ∧ R (.bl (shlB d)) cs
theorem len_l_is_shelf : ∀ ds cs R, sem_l_is_shelf ds cs R → ds.length = 1 := by rintro ds cs R ⟨_, rfl, _⟩; rfl
def ex_l_is_shelf_1 : DE :=
  (dAndV (dCall (fIsi "tuple") (dCons (dVar 0) (dCons (dC (.ty "tuple")) dNil))) (dAndV (dBin dEq (dCall fLen (dCons (dVar 0) dNil)) (dC (.int 2))) (dAndV (dFn 1 sem_l_is_name (fun ds _ => ds) (dCons (dBin dIxF (dVar 0) (dC (.int 0))) dNil)) (dFn 3 sem_l_whole (fun ds _ => ds) (dCons (dBin dIxF (dVar 0) (dC (.int 1))) (dCons (dC (.int 1)) (dCons (dC (.int 8)) dNil)))))))
/-- _law_is_shelf: slots 0=_law_thing -/
def den_l_is_shelf : DS :=
  (sRet ex_l_is_shelf_1)
theorem okd_l_is_shelf : ∀ ds cs R, sem_l_is_shelf ds cs R → den_l_is_shelf { nx := fun c => R .non c.cs, rt := R } ⟨env0 1 ds, cs⟩ := by
  rintro ds cs R ⟨d, rfl, h, q⟩
  unfold den_l_is_shelf ex_l_is_shelf_1
  simp only [sRet]
  refine ev_tupN h.ky (by rfl) (fun z => by rw [shl_no z] at q; exact q) fun ds e hl => ?_
  subst e
  obtain ⟨a, n, rfl⟩ := len2 hl
  have ha := h.part (e := a) (by simp)
  have hn := h.part (e := n) (by simp)
  have q' : R (.bl (nameB a && inB 1 8 n)) cs := q
  k_search sem_l_is_name
  refine ⟨ha, ?_⟩
  cases h1 : nameB a with
  | false => rw [h1] at q'; exact q'
  | true =>
    rw [h1] at q'
    k_search sem_l_whole
    exact ⟨_, _, _, ⟨rfl, rfl, rfl⟩, hn.ky, q'⟩
/-- a tuple of n parts, the first one of the words -/
def tpB (ws : List Str) (n : Int) : D → Bool | .tup (.str s :: r) => decide ((((D.str s :: r).length : Nat) : Int) = n) && ws.any (fun t => t == s) | _ => false
theorem tp_no {ws : List Str} {n : Int} {d : D} (h : ∀ ds, d = .tup ds → (ds.length : Int) ≠ n) : tpB ws n d = false := by
  unfold tpB
  split
  · rename_i s r
    rw [decide_eq_false (h _ rfl), Bool.false_and]
  · rfl
def sem_l_is_tuple : Sem := fun ds cs R => ∃ d ws n, ds = [d, .lst (List.map D.str ws), .int n] ∧ Sm d ∧ 0 < n ∧ R (.bl (tpB ws n d)) cs
theorem len_l_is_tuple : ∀ ds cs R, sem_l_is_tuple ds cs R → ds.length = 3 := by rintro ds cs R ⟨_, _, _, rfl, _⟩; rfl
def ex_l_is_tuple_1 : DE :=
  (dAndV (dCall (fIsi "tuple") (dCons (dVar 0) (dCons (dC (.ty "tuple")) dNil))) (dAndV (dBin dEq (dCall fLen (dCons (dVar 0) dNil)) (dVar 2)) (dAndV (dCall (fIsi "str") (dCons (dBin dIxF (dVar 0) (dC (.int 0))) (dCons (dC (.ty "str")) dNil))) (dBin dIn (dBin dIxF (dVar 0) (dC (.int 0))) (dVar 1)))))
/-- _law_is_tuple: slots 0=_law_thing 1=_law_words 2=_law_many -/
def den_l_is_tuple : DS :=
  (sRet ex_l_is_tuple_1)
theorem okd_l_is_tuple : ∀ ds cs R, sem_l_is_tuple ds cs R → den_l_is_tuple { nx := fun c => R .non c.cs, rt := R } ⟨env0 3 ds, cs⟩ := by
  rintro ds cs R ⟨d, ws, n, rfl, h, hn, q⟩
  unfold den_l_is_tuple ex_l_is_tuple_1
  simp only [sRet]
  k_search isTup
  rw [isi_tuple h.ky]
  match d, h, q with
  | .tup ds, h, q =>
    k_search isTup
    refine ite_both (fun z => ?_) fun z => ?_
    · match ds, h, q, z with
      | [], h, q, z => exact absurd (show (0 : Int) = n from z) (by omega)
      | x :: r, h, q, z =>
        have hx := h.part (e := x) (by simp)
        refine ⟨x, at0, ?_⟩
        rw [isi_str hx.ky]
        match x, hx, q, h, z with
        | .str s, _, q, _, z =>
          have q' : R (.bl (decide ((((D.str s :: r).length : Nat) : Int) = n) && ws.any (fun t => t == s))) cs := q
          rw [decide_eq_true z, Bool.true_and] at q'
          exact ⟨_, rfl, _, at0, _, rfl, _, rfl, rfl, strs_flat ws, by rw [any_strs]; exact q'⟩
        | .non, _, q, _, _ => exact q
        | .bl b, _, q, _, _ => exact q
        | .int b, _, q, _, _ => exact q
        | .lst b, _, q, _, _ => exact q
        | .tup b, _, q, _, _ => exact q
        | .dic b, _, q, _, _ => exact q
    · rw [tp_no fun ds' e => by cases e; exact z] at q; exact q
  | .non, _, q => exact q
  | .bl b, _, q => exact q
  | .int b, _, q => exact q
  | .str b, _, q => exact q
  | .lst b, _, q => exact q
  | .dic b, _, q => exact q
/-! #### spans, takes -/
theorem tp_one {w : Str} {n : Int} {d : D} : tpB [w] n d = (match d with | .tup (h :: r) => decide ((((h :: r).length : Nat) : Int) = n) && strIs w h | _ => false) := by
  unfold tpB
  split
  · rename_i s r
    show (_ && ((w == s) || false)) = (_ && decide (s = w))
    rw [Bool.or_false]
    congr 1
    by_cases h : s = w
    · subst h; simp
    · rw [decide_eq_false h]; exact beq_false_of_ne (Ne.symm h)
  · split
    · rename_i h r hh
      have : strIs w h = false := by
        cases h <;> first | rfl | exact (hh _ _ rfl).elim
      rw [this, Bool.and_false]
    · rfl
theorem tp_is {w : Str} {n : Int} {d : D} (h : tpB [w] n d = true) : ∃ x r, d = .tup (x :: r) ∧ (((x :: r).length : Nat) : Int) = n ∧ strIs w x = true := by
  rw [tp_one] at h
  split at h
  · obtain ⟨h1, h2⟩ := Bool.and_eq_true_iff.mp h
    exact ⟨_, _, rfl, of_decide_eq_true h1, h2⟩
  · cases h
theorem bds_tp {d : D} (h : tpB ["number"] 3 d = false) : bdsB d = false := by
  unfold bdsB
  split
  · rename_i x a b
    rw [tp_one] at h
    have h' : (decide (((([x, a, b] : List D).length : Nat) : Int) = 3) && strIs "number" x) = false := h
    rw [decide_eq_true (by rfl), Bool.true_and] at h'
    rw [h', Bool.false_and]
  · rfl
theorem of_tp {w : Str} {f : Str → Bool} {d : D} (h : tpB [w] 2 d = false) : ofB w f d = false := by
  unfold ofB
  split
  · rename_i x s
    rw [tp_one] at h
    have h' : (decide (((([x, D.str s] : List D).length : Nat) : Int) = 2) && strIs w x) = false := h
    rw [decide_eq_true (by rfl), Bool.true_and] at h'
    rw [h', Bool.false_and]
  · rfl
theorem cel_tp {d : D} (h : tpB ["cells"] 2 d = false) : celB d = false := by
  unfold celB
  split
  · rename_i x n
    rw [tp_one] at h
    have h' : (decide (((([x, n] : List D).length : Nat) : Int) = 2) && strIs "cells" x) = false := h
    rw [decide_eq_true (by rfl), Bool.true_and] at h'
    rw [h', Bool.false_and]
  · rfl
theorem span_eq {a b : D} {i : Int} (h : a = .int i) (h0 : 0 ≤ i) (h1 : i ≤ 65535) : inB i 65535 b = (inB 0 65535 b && leD a b) := by
  subst h
  cases b <;> first | rfl | skip
  rename_i j
  show (decide (i ≤ j) && decide (j ≤ 65535)) = ((decide (0 ≤ j) && decide (j ≤ 65535)) && decide (i ≤ j))
  by_cases z : i ≤ j
  · rw [decide_eq_true z, Bool.true_and, Bool.and_true, decide_eq_true (show 0 ≤ j by omega), Bool.true_and]
  · rw [decide_eq_false z, Bool.false_and, Bool.and_false]
def sem_l_is_span : Sem := fun ds cs R => ∃ d, ds = [d] ∧ Sm d ∧ R (.bl (bdsB d)) cs
theorem len_l_is_span : ∀ ds cs R, sem_l_is_span ds cs R → ds.length = 1 := by rintro ds cs R ⟨_, rfl, _⟩; rfl
def ex_l_is_span_1 : DE :=
  (dAndV (dFn 3 sem_l_whole (fun ds _ => ds) (dCons (dBin dIxF (dVar 0) (dC (.int 1))) (dCons (dC (.int 0)) (dCons (dC (.int 65535)) dNil)))) (dFn 3 sem_l_whole (fun ds _ => ds) (dCons (dBin dIxF (dVar 0) (dC (.int 2))) (dCons (dBin dIxF (dVar 0) (dC (.int 1))) (dCons (dC (.int 65535)) dNil)))))
/-- _law_is_span: slots 0=_law_thing -/
def den_l_is_span : DS :=
  (sSeq (sIf (dNotT (dTru (dFn 3 sem_l_is_tuple (fun ds _ => ds) (dCons (dVar 0) (dCons (dLst (dCons (dC (.str "number")) dNil)) (dCons (dC (.int 3)) dNil)))))) (sRet (dC (.bl false))) sNext)
    (sRet ex_l_is_span_1))
theorem okd_l_is_span : ∀ ds cs R, sem_l_is_span ds cs R → den_l_is_span { nx := fun c => R .non c.cs, rt := R } ⟨env0 1 ds, cs⟩ := by
  rintro ds cs R ⟨d, rfl, h, q⟩
  unfold den_l_is_span
  k_search sem_l_is_tuple
  refine ⟨_, ["number"], _, ⟨rfl, rfl, rfl⟩, h, by decide, ?_⟩
  cases hT : tpB ["number"] 3 d with
  | false =>
    rw [bds_tp hT] at q
    exact q
  | true =>
    obtain ⟨x, r, rfl, hl, hx⟩ := tp_is hT
    obtain ⟨a, b, e⟩ : ∃ a b, r = [a, b] := by
      obtain ⟨_, a, b, e⟩ := len3 hl
      cases e; exact ⟨a, b, rfl⟩
    subst e
    have ha := h.part (e := a) (by simp)
    have hb := h.part (e := b) (by simp)
    refine iteF' (by decide) ?_
    have q' : R (.bl (strIs "number" x && (inB 0 65535 a && (inB 0 65535 b && leD a b)))) cs := q
    rw [hx, Bool.true_and] at q'
    unfold ex_l_is_span_1
    k_search sem_l_whole
    refine ⟨_, _, _, ⟨rfl, rfl, rfl⟩, ha.ky, ?_⟩
    cases h1 : inB 0 65535 a with
    | false => rw [h1] at q'; exact q'
    | true =>
      rw [h1, Bool.true_and] at q'
      obtain ⟨i, rfl, i0, i1⟩ := inB_int h1
      exact ⟨_, _, _, ⟨rfl, rfl, rfl⟩, hb.ky, by rw [span_eq rfl i0 i1]; exact q'⟩
theorem any_cont {ns : List Str} {s : Str} : (ns.any fun t => t == s) = ns.contains s := by
  rw [Bool.eq_iff_iff, List.any_eq_true, List.contains_iff_mem]
  exact ⟨fun ⟨t, ht, e⟩ => by rw [← beq_iff_eq.mp e]; exact ht, fun h => ⟨s, h, beq_self_eq_true s⟩⟩
def sem_l_is_take : Sem := fun ds cs R => ∃ d k ns, ds = [d, .cel k] ∧ cs k = some (.lst (List.map D.str ns)) ∧ (∀ s ∈ ns, nameB (.str s) = true) ∧ Sm d ∧ R (.bl (takB (fun s => ns.contains s) d)) cs
theorem len_l_is_take : ∀ ds cs R, sem_l_is_take ds cs R → ds.length = 2 := by rintro ds cs R ⟨_, _, _, rfl, _⟩; rfl
def ex_l_is_take_1 : DE :=
  (dAndV (dCall (fIsi "str") (dCons (dBin dIxF (dVar 0) (dC (.int 1))) (dCons (dC (.ty "str")) dNil))) (dBin dInL (dBin dIxF (dVar 0) (dC (.int 1))) (dVar 1)))
/-- _law_is_take: slots 0=_law_thing 1=_law_names -/
def den_l_is_take : DS :=
  (sSeq (sIf (dTru (dFn 3 sem_l_is_tuple (fun ds _ => ds) (dCons (dVar 0) (dCons (dLst (dCons (dC (.str "cells")) dNil)) (dCons (dC (.int 2)) dNil))))) (sRet (dFn 3 sem_l_whole (fun ds _ => ds) (dCons (dBin dIxF (dVar 0) (dC (.int 1))) (dCons (dC (.int 1)) (dCons (dC (.int 8)) dNil))))) sNext)
    (sSeq (sIf (dTru (dFn 3 sem_l_is_tuple (fun ds _ => ds) (dCons (dVar 0) (dCons (dLst (dCons (dC (.str "room")) dNil)) (dCons (dC (.int 2)) dNil))))) (sRet ex_l_is_take_1) sNext)
    (sRet (dFn 1 sem_l_is_span (fun ds _ => ds) (dCons (dVar 0) dNil)))))
theorem okd_l_is_take : ∀ ds cs R, sem_l_is_take ds cs R → den_l_is_take { nx := fun c => R .non c.cs, rt := R } ⟨env0 2 ds, cs⟩ := by
  rintro ds cs R ⟨d, k, ns, rfl, hk, hns, h, q⟩
  unfold den_l_is_take
  k_search sem_l_is_tuple
  refine ⟨_, ["cells"], _, ⟨rfl, rfl, rfl⟩, h, by decide, ?_⟩
  unfold takB at q
  cases hC : tpB ["cells"] 2 d with
  | true =>
    obtain ⟨x, r, rfl, hl, hx⟩ := tp_is hC
    obtain ⟨n, e⟩ : ∃ n, r = [n] := by
      obtain ⟨_, n, e⟩ := len2 hl
      cases e; exact ⟨n, rfl⟩
    subst e
    have hn := h.part (e := n) (by simp)
    obtain ⟨s, rfl, rfl⟩ := strIs_str hx
    refine iteT' rfl ?_
    rw [show bdsB (.tup [.str "cells", n]) = false from rfl, of_nh (show strIs "room" (.str "cells") = false by decide +kernel)] at q
    k_search sem_l_whole
    exact ⟨_, _, _, ⟨rfl, rfl, rfl⟩, hn.ky, q⟩
  | false =>
    rw [cel_tp hC, Bool.or_false] at q
    refine iteF' (by decide) ⟨_, ["room"], _, ⟨rfl, rfl, rfl⟩, h, by decide, ?_⟩
    cases hR : tpB ["room"] 2 d with
    | true =>
      obtain ⟨x, r, rfl, hl, hx⟩ := tp_is hR
      obtain ⟨n, e⟩ : ∃ n, r = [n] := by
        obtain ⟨_, n, e⟩ := len2 hl
        cases e; exact ⟨n, rfl⟩
      subst e
      have hn := h.part (e := n) (by simp)
      refine iteT' rfl ?_
      rw [show bdsB (.tup [x, n]) = false from rfl, Bool.false_or] at q
      unfold ex_l_is_take_1
      k_search at1
      rw [isi_str hn.ky]
      cases n <;> first
        | exact q
        | skip
      rename_i s
      have q' : R (.bl (strIs "room" x && (nameB (.str s) && ns.contains s))) cs := q
      rw [hx, Bool.true_and] at q'
      refine ⟨_, rfl, _, at1, _, rfl, _, hk, rfl, strs_flat ns, ?_⟩
      rw [any_strs, any_cont]
      cases hc : ns.contains s with
      | false => rw [hc, Bool.and_false] at q'; exact q'
      | true => rw [hc, hns s (List.contains_iff_mem.mp hc)] at q'; exact q'
    | false =>
      rw [of_tp hR, Bool.or_false] at q
      exact iteF' (by decide) ⟨_, rfl, h, q⟩
theorem lc_bad {k i j m : Nat} {env : List (Option D)} {ns : List Str} (he : ∀ d, (env.set i (some d))[i]? = some (some d)) (hj : ∀ d, (env.set i (some d))[j]? = some (some (.cel m))) (hns : ∀ s ∈ ns, nameB (.str s) = true) {R : List D → Cells → Prop} : ∀ {ts acc : List D} {cs : Cells}, cs k = none → cs m = some (.lst (List.map D.str ns)) → acc.length + ts.length ≤ 3 → (∀ t ∈ ts, Sm t) →
    R (acc ++ ts.filter fun t => !takB (fun s => ns.contains s) t) cs → lcGo k (.one i) (dNotT (dTru (dFn 2 sem_l_is_take (fun ds _ => ds) (dCons (dVar i) (dCons (dVar j) dNil))))) (dVar i) env ts acc cs R
  | [], acc, cs, _, _, _, _, q => by
    rw [List.filter_nil, List.append_nil] at q
    exact q
  | t :: ts, acc, cs, hk, hm, hl, ht, q => by
    have hkm : m ≠ k := fun e => by rw [e, hk] at hm; cases hm
    rw [List.length_cons] at hl
    have nxt : ∀ acc', acc'.length + ts.length ≤ 3 → R (acc' ++ ts.filter fun t => !takB (fun s => ns.contains s) t) cs → lcGo k (.one i) (dNotT (dTru (dFn 2 sem_l_is_take (fun ds _ => ds) (dCons (dVar i) (dCons (dVar j) dNil))))) (dVar i) env ts acc' (del (put cs k (.lst acc)) k) R := fun acc' h1 h2 => by
      rw [del_put hk]
      exact lc_bad he hj hns hk hm h1 (fun x hx => ht x (List.mem_cons_of_mem _ hx)) h2
    refine ⟨_, rfl, _, he t, _, hj t, rfl, _, m, ns, rfl, (put_ne hkm).trans hm, hns, ht t List.mem_cons_self, _, rfl, ?_⟩
    rw [List.filter_cons] at q
    cases hb : takB (fun s => ns.contains s) t with
    | true =>
      rw [hb, if_neg (by decide)] at q
      exact ⟨put_same, nxt acc (by omega) q⟩
    | false =>
      rw [hb, if_pos (by decide)] at q
      exact ⟨_, he t, put_same, by rw [sizeLine_eq]; omega, nxt _ (by rw [List.length_append, List.length_singleton]; omega) (by rw [List.append_assoc]; exact q)⟩
/-- the takes' first words, and a nought behind them -/
def wordsD (ts : List D) : List D := (ts.map fun t => D.str (hd t)) ++ [.str ""]
theorem words0 {ts : List D} (h : ∀ t ∈ ts, hdS t = true) : ∃ w, L2.atI (wordsD ts) 0 = some (.str w) ∧ ∀ x : Str, x ≠ "" → decide (w = x) = headIs x ts := by
  cases ts with
  | nil => exact ⟨"", at0, fun x hx => decide_eq_false (Ne.symm hx)⟩
  | cons t r => exact ⟨hd t, at0, fun _ _ => rfl⟩
theorem cnt_words (ts : List D) : ((wordsD ts).countP fun d => eqF d (.str "room")) = cntR ts := by
  unfold wordsD
  rw [List.countP_append, cnt_heads]
  show cntR ts + 0 = cntR ts
  rfl
theorem back_tp {g : D} (h : tpB ["back"] 1 g = false) : isBack g = false := by
  unfold isBack
  split
  · rename_i s
    rw [tp_one] at h
    have h' : (decide (((([D.str s] : List D).length : Nat) : Int) = 1) && strIs "back" (.str s)) = false := h
    rw [decide_eq_true (by rfl), Bool.true_and] at h'
    exact h'
  · rfl
theorem words_flat (ts : List D) : (wordsD ts).all flatD = true := by
  unfold wordsD
  rw [List.all_append, List.all_map]
  exact Bool.and_eq_true_iff.mpr ⟨List.all_eq_true.mpr fun _ _ => rfl, rfl⟩
def sem_l_is_call : Sem := fun ds cs R => ∃ d k ns, ds = [d, .cel k] ∧ cs k = some (.lst (List.map D.str ns)) ∧ (∀ s ∈ ns, nameB (.str s) = true) ∧ Sm d ∧ itB d = true ∧ R (.bl (calB (fun s => ns.contains s) d)) cs
theorem len_l_is_call : ∀ ds cs R, sem_l_is_call ds cs R → ds.length = 2 := by rintro ds cs R ⟨_, _, _, rfl, _⟩; rfl
def te_l_is_call_1 : DT :=
  (dOrT (dNotT (dTru (dCall (fIsi "tuple") (dCons (dVar 0) (dCons (dC (.ty "tuple")) dNil))))) (dOrT (dTB (dBin dNe (dCall fLen (dCons (dVar 0) dNil)) (dC (.int 3)))) (dNotT (dTru (dFn 1 sem_l_is_name (fun ds _ => ds) (dCons (dBin dIxF (dVar 0) (dC (.int 0))) dNil))))))
def ex_l_is_call_1 : DE :=
  (dLc (iTp (dVar 2)) (.one 4) (dNotT (dTru (dFn 2 sem_l_is_take (fun ds _ => ds) (dCons (dVar 4) (dCons (dVar 1) dNil))))) (dVar 4))
def te_l_is_call_2 : DT :=
  (dOrT (dNotT (dTru (dCall (fIsi "tuple") (dCons (dVar 2) (dCons (dC (.ty "tuple")) dNil))))) (dOrT (dTB (dBin dGt (dCall fLen (dCons (dVar 2) dNil)) (dC (.int 3)))) (dTB (dBin dNeNil ex_l_is_call_1 (dLst dNil)))))
def ex_l_is_call_2 : DE :=
  (dLc (iTp (dVar 2)) (.one 4) dYes (dBin dIxF (dVar 4) (dC (.int 0))))
def ex_l_is_call_3 : DE :=
  (dAndV (dCall (fIsi "str") (dCons (dBin dIxF (dVar 3) (dC (.int 1))) (dCons (dC (.ty "str")) dNil))) (dAndV (dBin dInL (dBin dIxF (dVar 3) (dC (.int 1))) (dVar 1)) (dBin dEq (dBin dIxF (dVar 5) (dC (.int 0))) (dC (.str "number")))))
def ex_l_is_call_4 : DE :=
  (dAndV (dBin dEq (dBin dIxF (dVar 5) (dC (.int 0))) (dC (.str "room"))) (dBin dEq (dCnt (dVar 5) (dC (.str "room"))) (dC (.int 1))))
/-- _law_is_call: slots 0=_law_thing 1=_law_names 2=_law_takes 3=_law_gives 4=_law_one 5=_law_words -/
def den_l_is_call : DS :=
  (sSeq (sIf te_l_is_call_1 (sRet (dC (.bl false))) sNext)
    (sSeq (sAsgG (dSlT (dVar 0) (dPart (dC (.int 1))) dNoPart) (gTp ((gNm 2) :: ((gNm 3) :: []))))
    (sSeq (sIf te_l_is_call_2 (sRet (dC (.bl false))) sNext)
    (sSeq (sAsg (dBin dAddA ex_l_is_call_2 (dLst (dCons (dC (.str "")) dNil))) 5)
    (sSeq (sIf (dTru (dFn 3 sem_l_is_tuple (fun ds _ => ds) (dCons (dVar 3) (dCons (dLst (dCons (dC (.str "lent")) dNil)) (dCons (dC (.int 2)) dNil))))) (sRet ex_l_is_call_3) sNext)
    (sSeq (sIf (dTru (dFn 3 sem_l_is_tuple (fun ds _ => ds) (dCons (dVar 3) (dCons (dLst (dCons (dC (.str "back")) dNil)) (dCons (dC (.int 1)) dNil))))) (sRet ex_l_is_call_4) sNext)
    (sRet (dFn 1 sem_l_is_span (fun ds _ => ds) (dCons (dVar 3) dNil)))))))))
theorem okd_l_is_call : ∀ ds cs R, sem_l_is_call ds cs R → den_l_is_call { nx := fun c => R .non c.cs, rt := R } ⟨env0 6 ds, cs⟩ := by
  rintro ds cs R ⟨d, m, ns, rfl, hm, hns, h, hi, q⟩
  unfold den_l_is_call te_l_is_call_1
  simp only [sSeq, e_if]
  refine te_tupN h.ky (by rfl) (fun z => by rw [cal_no z] at q; exact q) fun ds e hl => ?_
  subst e
  obtain ⟨a, t, g, rfl⟩ := len3 hl
  have ha := h.part (e := a) (by simp)
  have ht := h.part (e := t) (by simp)
  have hg := h.part (e := g) (by simp)
  k_search sem_l_is_name
  refine ⟨ha, ?_⟩
  cases hn : nameB a with
  | false => rw [cal_nm hn] at q; exact q
  | true =>
    refine iteF' (by decide) ?_
    unfold dSlT gTp
    k_search at1
    refine ⟨_, rfl, ?_⟩
    rw [show (some (1 : Int)) = some ((1 : Nat) : Int) from rfl, cut_from]
    refine ⟨rfl, ?_⟩
    show gList [gNm 2, gNm 3] [t, g] _ _
    unfold te_l_is_call_2
    k_search at1
    rw [isi_tuple ht.ky]
    match t, ht, hi, q with
    | .tup ts, ht, hi, q =>
      have q' : R (.bl (nameB a && (decide (ts.length ≤ 3) && (ts.all (takB fun s => ns.contains s) && givB (fun s => ns.contains s) ts g)))) cs := q
      rw [hn, Bool.true_and] at q'
      obtain ⟨hi1, hi2⟩ := Bool.and_eq_true_iff.mp (show (ts.all tkB && gvB g) = true from hi)
      refine ⟨true, rfl, ?_⟩
      k_search at1
      refine ite_both (fun z => ?_) fun z => ?_
      · rw [decide_eq_false (show ¬ ts.length ≤ 3 by omega), Bool.false_and] at q'
        exact q'
      · have h3 : ts.length ≤ 3 := by omega
        rw [decide_eq_true h3, Bool.true_and] at q'
        unfold ex_l_is_call_1 dLc
        k_search at1
        refine ⟨_, rfl, fun k hk => lc_bad (fun _ => rfl) (fun _ => rfl) hns hk hm (by simpa using h3) (fun t hm => ht.part hm) ?_⟩
        rw [List.nil_append]
        have e0 : (ts.filter fun t => !takB (fun s => ns.contains s) t).isEmpty = ts.all (takB fun s => ns.contains s) := by
          rw [Bool.eq_iff_iff, List.isEmpty_iff, List.filter_eq_nil_iff, List.all_eq_true]
          exact ⟨fun h x hx => by have := h x hx; simpa using this, fun h x hx => by rw [h x hx]; decide⟩
        show onB (.bl (true != (ts.filter fun t => !takB (fun s => ns.contains s) t).isEmpty)) _ _
        rw [e0]
        cases hA : ts.all (takB fun s => ns.contains s) with
        | false => rw [hA] at q'; exact q'
        | true =>
          rw [hA, Bool.true_and] at q'
          have hts : ∀ t ∈ ts, hdS t = true := fun t hm => tak_hd (List.all_eq_true.mp hA t hm)
          show ex_l_is_call_2 _ _
          unfold ex_l_is_call_2 dLc
          k_search at1
          refine ⟨_, rfl, fun k2 hk2 => lc_heads hk2 (Nat.le_trans h3 (by decide)) hts (fun _ => rfl) ?_⟩
          refine ⟨by rw [sizeLine_eq, List.length_map]; show ts.length + 1 ≤ _; omega, _, rfl, g, ["lent"], 2, rfl, hg, by decide, _, rfl, ?_⟩
          obtain ⟨w, e1, e2⟩ := words0 hts
          unfold givB at q'
          cases hL : tpB ["lent"] 2 g with
          | true =>
            obtain ⟨x, r, rfl, hl, hx⟩ := tp_is hL
            obtain ⟨n, e⟩ : ∃ n, r = [n] := by
              obtain ⟨_, n, e⟩ := len2 hl
              cases e; exact ⟨n, rfl⟩
            subst e
            have hnn := hg.part (e := n) (by simp)
            have hb : isBack (.tup [x, n]) = false := by cases x <;> rfl
            rw [hb, if_neg (by decide)] at q'
            refine iteT' rfl ?_
            unfold ex_l_is_call_3
            k_search at1
            rw [isi_str hnn.ky]
            cases hs : isStr n with
            | false => rw [of_nstr hs] at q'; exact q'
            | true =>
              obtain ⟨s, rfl⟩ : ∃ s, n = .str s := by cases n <;> first | exact ⟨_, rfl⟩ | cases hs
              have eo : ofB "lent" (fun s => ns.contains s) (.tup [x, .str s]) = ns.contains s := by
                show (strIs "lent" x && (nameB (.str s) && ns.contains s)) = _
                rw [hx, Bool.true_and]
                cases hc : ns.contains s with
                | false => rw [Bool.and_false]
                | true => rw [hns s (List.contains_iff_mem.mp hc)]; rfl
              rw [eo] at q'
              refine ⟨_, rfl, _, at1, _, rfl, _, hm, rfl, strs_flat ns, ?_⟩
              rw [any_strs, any_cont]
              cases hc : ns.contains s with
              | false => rw [hc] at q'; exact q'
              | true =>
                rw [hc, if_pos rfl] at q'
                exact ⟨_, rfl, _, e1, show R (.bl (decide (w = "number"))) cs by rw [e2 _ (by decide +kernel)]; exact q'⟩
          | false =>
            rw [of_tp hL] at q'
            refine iteF' (by decide) ⟨_, rfl, g, ["back"], 1, rfl, hg, by decide, _, rfl, ?_⟩
            cases hB : tpB ["back"] 1 g with
            | true =>
              refine iteT' rfl ?_
              have hb : isBack g = true := by
                obtain ⟨x, r, rfl, hl, hx⟩ := tp_is hB
                obtain ⟨s, rfl, rfl⟩ := strIs_str hx
                cases r with
                | nil => rfl
                | cons y r => simp at hl; omega
              rw [hb, if_pos rfl] at q'
              unfold ex_l_is_call_4 dCnt
              k_search e1
              refine ⟨_, e1, ?_⟩
              show onB (.bl (decide (w = "room"))) _ _
              rw [e2 _ (by decide +kernel)]
              cases hh : headIs "room" ts with
              | false => rw [hh, Bool.and_false] at q'; exact q'
              | true =>
                rw [hh, Bool.and_true] at q'
                refine ⟨_, rfl, _, rfl, rfl, words_flat ts, ?_⟩
                have ec := cnt_words ts
                unfold wordsD at ec
                rw [ec, show decide (((cntR ts : Nat) : Int) = 1) = decide (cntR ts = 1) from decide_eq_decide.mpr (by omega)]
                exact q'
            | false =>
              refine iteF' (by decide) ?_
              have hb : isBack g = false := by
                exact back_tp hB
              rw [hb, if_neg (by decide), if_neg (by decide)] at q'
              exact ⟨_, rfl, _, rfl, hg, q'⟩
    | .non, _, _, q => exact ⟨false, rfl, q⟩
    | .bl b, _, _, q => exact ⟨false, rfl, q⟩
    | .int b, _, _, q => exact ⟨false, rfl, q⟩
    | .str b, _, _, q => exact ⟨false, rfl, q⟩
    | .lst b, _, _, q => exact ⟨false, rfl, q⟩
    | .dic b, _, _, q => exact ⟨false, rfl, q⟩
local macro_rules | `(tactic| k_search $t) => `(tactic| simp only [$t:term, sNext, sSeq, sAsg, sRet, sRetN, sDrop, e_if, sBreak, sCont, sAsgG, e_par, e_par3, gNm, e_set, e_setC, gList, dVar, dC, dBin, e_int2, e_add_ii, e_add_ib, e_add_ss, e_add_ll, e_add_tt, dSub, dMul, dDiv, dMod, dPow, dShl, dShr, dAnd, dOr, dXor, e_neg, dLt, dLe, dGt, dGe, e_eq_ii, e_eq_bb, e_eq_ss, e_ne_ii, e_ne_bb, e_ne_ss, e_eq_l, e_eq_sl, e_eq_t, e_eq_n, e_ne_l, e_ne_sl, e_ne_t, e_ne_n, e_chain, dTru, e_tb, e_tru_n, e_tru_b, e_tru_i, e_tru_l, e_tru_sl, e_tru_t, e_tru_d, e_andT, e_orT, dNotT, e_andV, e_orV, dNotV, e_ifE, onB_t, onB_f, onB_dec, onB_ndec, onB_not, onI_i, dNil, dCons, dTup, dLst, dLstC, dCall, dFn, dFnK, e_abs, e_max, e_min, e_int_i, e_int_b, e_len_l, e_len_sl, e_len_t, e_len_d, e_len_s, e_len_c, e_sum_l, e_ix_l, e_ix_sl, e_ix_t, e_ix_c, e_ix_s, e_ix_di, e_ix_ds, dSl, e_sl_l, e_sl_sl, e_sl_t, e_sl_s, dNoPart, e_part, iSeq, iTp, e_rng1, iRng2, sFor, sWhile, dDNew, dIsN, dIsNotN, isNon, env0,
  List.map_cons, List.map_nil, List.length_cons, List.length_nil, List.replicate, List.cons_append, List.nil_append, List.append_nil, Nat.sub_self, Nat.reduceSub, Nat.reduceAdd, List.getElem?_cons_zero, List.getElem?_cons_succ, List.set_cons_zero, List.set_cons_succ, Option.some.injEq, Co.lst.injEq, exists_eq_left', exists_eq_left, exists_and_left, List.cons.injEq, decide_eq_true_eq, true_and, and_true, decide_true, decide_false, if_true, if_false, Bool.false_eq_true, Bool.not_true, Bool.not_false, listD, intsOf_map, put_same, put_put, at0, at1, at2, at3, at4, at5, ix20, ix21, sizeLine_eq, Nat.reduceLeDiff, Int.reduceLT, Int.reduceLE, Int.reduceNeg, gt_iff_lt, ge_iff_le, Int.one_mul, wipeD, TgN.vs, List.foldr_cons, List.foldr_nil, tgSet, fStr_i, fReprD_d, e_gtp, onCel_c, onDic_d, onKey_i, onKey_s, dIxC, dInC, dNotInC, dInCN, dUpd, dFrz, dFrzD, e_isB, cellD_dic, cellD_fdic, dBits, dDNewC, Co.dic.injEq, exists_eq', eq_self, and_self, e_enum, e_zip])
local macro_rules | `(tactic| walk_at "dl") => `(tactic| k_search put_same)
local macro_rules | `(tactic| walk_at "nd") => `(tactic| (simp only [List.map_cons, List.map_nil, List.cons_append, List.nil_append, List.append_nil]; decide +kernel))
local macro_rules | `(tactic| walk_at "asm") => `(tactic| repeat (refine And.intro (by assumption) ?_))
/-! ### a part of a contract looked at -/
def partF (fit : D → Bool) : List Str → Nat → List D → Option Nat
  | _, _, [] => none
  | ahead, i, d :: ds => if (!fit d || ahead.contains (hd d)) = true then some i else partF fit (ahead ++ [hd d]) (i + 1) ds
/-- none: let by; else with which number it is refused -/
def lookP (fit : D → Bool) (mx : Int) : D → Option D
  | .lst ds => if mx < (ds.length : Int) then some .non else (partF fit [] 0 ds).map fun (i : Nat) => .int (i : Int)
  | _ => some .non
def raisedC (p n : D) : DX := ⟨"NoContract", some [("number", n), ("part", p)]⟩
def Gd (e : D) : Prop := Sm e ∧ itB e = true
structure Lg (d : D) : Prop where
  k : kindly d
  s : ∀ l, d ≠ .slst l
  r : ∀ l, d = .lst l → l.length ≤ 100 ∧ ∀ e ∈ l, Gd e
/-- more cells, none changed -/
def Gr (cs cs' : Cells) : Prop := ∀ k o, cs k = some o → cs' k = some o
theorem Gr.refl {cs : Cells} : Gr cs cs := fun _ _ h => h
theorem Gr.trans {a b c : Cells} (h : Gr a b) (h' : Gr b c) : Gr a c := fun k o e => h' k o (h k o e)
theorem Gr.put {cs : Cells} {k : Nat} {o : Co} (h : cs k = none) : Gr cs (put cs k o) := fun j u e => by
  rw [put_ne (fun z => by rw [z, h] at e; cases e)]; exact e
theorem drop_at {rows : List D} {t : Nat} {e : D} (h : rows[t]? = some e) : rows.drop t = e :: rows.drop (t + 1) := by
  have hl := (List.getElem?_eq_some_iff.mp h).1
  rw [List.drop_eq_getElem_cons hl, (List.getElem?_eq_some_iff.mp h).2]
def aheadL (rows : List D) (t : Nat) : List Str := (rows.take t).map hd
theorem part_walk {F : DE} {fit : D → Bool} {pt s3 d : D} {mx : Int} {DD : DEnds} {cs : Cells} (h : Lg d) (hh : ∀ e, fit e = true → hdS e = true)
    (hF : ∀ (c : Z) (e : D) (Q : D → Z → Prop), c.env[3]? = some (some s3) → c.env[6]? = some (some e) → Gd e → Q (.bl (fit e)) c → F c Q)
    (q0 : lookP fit mx d = none → ∀ env cs', Gr cs cs' → DD.nx ⟨env, cs'⟩) (q1 : ∀ n, lookP fit mx d = some n → ∀ env cs', Gr cs cs' → DD.xx (raisedC pt n) ⟨env, cs'⟩) :
    (sSeq (sIf (dOrT (dNotT (dTru (dCall (fIsi "list") (dCons (dVar 1) (dCons (dC (.ty "list")) dNil))))) (dTB (dBin dGt (dCall fLen (dCons (dVar 1) dNil)) (dVar 2)))) (sRaiseF "NoContract" ["part", "number"] (dCons (dVar 0) (dCons (dC .non) dNil))) sNext)
    (sSeq (sAsg (dLstC dNil) 4)
    (sFor (iEnu (dCons (dVar 1) dNil)) (gTp ((gNm 5) :: ((gNm 6) :: []))) (sSeq (sIf (dOrT (dNotT (dTru F)) (dTB (dBin dInL (dBin dIxF (dVar 6) (dC (.int 0))) (dVar 4)))) (sRaiseF "NoContract" ["part", "number"] (dCons (dVar 0) (dCons (dVar 5) dNil))) sNext)
    (sDrop (dApp (dVar 4) (dBin dIxF (dVar 6) (dC (.int 0))))))))) DD ⟨[some pt, some d, some (.int mx), some s3, none, none, none], cs⟩ := by
  unfold sRaiseF
  simp only [sSeq, e_if]
  k_search isTup
  rw [isi_list h.k]
  match d, h, q0, q1 with
  | .lst rows, h, q0, q1 =>
    refine ⟨true, rfl, ?_⟩
    k_search at1
    refine ite_both (fun z => ?_) fun z => ?_
    · exact q1 _ (by unfold lookP; exact if_pos z) _ _ .refl
    · have hv : lookP fit mx (.lst rows) = (partF fit [] 0 rows).map fun (i : Nat) => .int (i : Int) := by unfold lookP; exact if_neg z
      rw [hv] at q0 q1
      obtain ⟨hl, hrow⟩ := h.r rows rfl
      intro k hk
      refine ⟨fun t c => (∃ e5 e6, c = ⟨[some pt, some (.lst rows), some (.int mx), some s3, some (.cel k), e5, e6], put cs k (.lst ((aheadL rows t).map D.str))⟩) ∧ partF fit (aheadL rows t) t (rows.drop t) = partF fit [] 0 rows, ⟨⟨_, _, rfl⟩, rfl⟩, ?_, ?_⟩
      · rintro t p c2 ht ⟨⟨e5, e6, rfl⟩, hb⟩
        obtain ⟨e, he, rfl⟩ := enumD_get ht
        have htl : t < rows.length := (List.getElem?_eq_some_iff.mp he).1
        rw [drop_at he] at hb
        have ge := hrow e (List.mem_of_getElem? he)
        have hb' : (if (!fit e || (aheadL rows t).contains (hd e)) = true then some t else partF fit (aheadL rows t ++ [hd e]) (t + 1) (rows.drop (t + 1))) = partF fit [] 0 rows := hb
        have ea : aheadL rows (t + 1) = aheadL rows t ++ [hd e] := by
          unfold aheadL
          rw [List.take_add_one, he, List.map_append]; rfl
        k_search isTup
        refine hF _ e _ rfl rfl ge ?_
        cases hf : fit e with
        | false =>
          rw [hf] at hb'
          refine ⟨false, rfl, iteT' rfl ⟨_, rfl, _, rfl, ?_⟩⟩
          exact q1 _ (by rw [← hb']; rfl) _ _ (.put hk)
        | true =>
          rw [hf] at hb'
          obtain ⟨s, r, rfl⟩ := hdS_is (hh e hf)
          refine ⟨true, rfl, iteF' (by decide) ⟨_, rfl, _, at0, _, rfl, ?_⟩⟩
          refine ⟨_, put_same, rfl, strs_flat _, ?_⟩
          show onB (.bl (((aheadL rows t).map D.str).any fun d => eqF d (.str s))) _ _
          rw [any_strs, any_cont]
          have hb2 : (if ((aheadL rows t).contains s) = true then some t else partF fit (aheadL rows t ++ [s]) (t + 1) (rows.drop (t + 1))) = partF fit [] 0 rows := hb'
          cases hc : (aheadL rows t).contains s with
          | true =>
            rw [hc, if_pos rfl] at hb2
            exact ⟨_, rfl, _, rfl, q1 _ (by rw [← hb2]; rfl) _ _ (.put hk)⟩
          | false =>
            rw [hc, if_neg (by decide)] at hb2
            unfold dApp
            k_search at0
            have ea' : aheadL rows (t + 1) = aheadL rows t ++ [s] := ea
            rw [ea']
            refine ⟨by rw [List.length_map]; unfold aheadL; rw [List.length_map, List.length_take]; omega, ⟨_, _, by rw [List.map_append]; rfl⟩, hb2⟩
      · rintro c2 ⟨⟨e5, e6, rfl⟩, hb⟩
        refine q0 ?_ _ _ (.put hk)
        rw [← hb, enumD_length, List.drop_length]; rfl
  | .non, _, _, q1 => exact ⟨false, rfl, iteT' rfl ⟨_, rfl, q1 _ rfl _ _ .refl⟩⟩
  | .bl b, _, _, q1 => exact ⟨false, rfl, iteT' rfl ⟨_, rfl, q1 _ rfl _ _ .refl⟩⟩
  | .int b, _, _, q1 => exact ⟨false, rfl, iteT' rfl ⟨_, rfl, q1 _ rfl _ _ .refl⟩⟩
  | .str b, _, _, q1 => exact ⟨false, rfl, iteT' rfl ⟨_, rfl, q1 _ rfl _ _ .refl⟩⟩
  | .slst b, h, _, _ => exact absurd rfl (h.s b)
  | .tup b, _, _, q1 => exact ⟨false, rfl, iteT' rfl ⟨_, rfl, q1 _ rfl _ _ .refl⟩⟩
  | .dic b, _, _, q1 => exact ⟨false, rfl, iteT' rfl ⟨_, rfl, q1 _ rfl _ _ .refl⟩⟩
theorem shl_hd {d : D} (h : shlB d = true) : hdS d = true := by
  unfold shlB at h
  split at h
  · obtain ⟨s, rfl⟩ := name_str (Bool.and_eq_true_iff.mp h).1; rfl
  · cases h
theorem cal_hd {f : Str → Bool} {d : D} (h : calB f d = true) : hdS d = true := by
  unfold calB at h
  split at h
  · obtain ⟨s, rfl⟩ := name_str (Bool.and_eq_true_iff.mp h).1; rfl
  · cases h
def sem_p_look_at_part : SemX := fun ds cs R XX => ∃ pt d mx, ds = [pt, d, .int mx, .fn "is_shelf"] ∧ Lg d ∧ (lookP shlB mx d = none → ∀ cs', Gr cs cs' → R .non cs') ∧ ∀ n, lookP shlB mx d = some n → ∀ cs', Gr cs cs' → XX (raisedC pt n) cs'
theorem len_p_look_at_part : ∀ ds cs R XX, sem_p_look_at_part ds cs R XX → ds.length = 4 := by rintro ds cs R XX ⟨_, _, _, rfl, _⟩; rfl
def te_p_look_at_part_1 : DT :=
  (dOrT (dNotT (dTru (dCall (fIsi "list") (dCons (dVar 1) (dCons (dC (.ty "list")) dNil))))) (dTB (dBin dGt (dCall fLen (dCons (dVar 1) dNil)) (dVar 2))))
def fs_p_look_at_part_fits : Str → Option Sem := fun f => if f = "is_shelf" then some sem_p_is_shelf else none
def te_p_look_at_part_2 : DT :=
  (dOrT (dNotT (dTru (dCallV 3 1 fs_p_look_at_part_fits (dCons (dVar 6) dNil)))) (dTB (dBin dInL (dBin dIxF (dVar 6) (dC (.int 0))) (dVar 4))))
def bd_p_look_at_part_1 : DS :=
  (sSeq (sIf te_p_look_at_part_2 (sRaiseF "NoContract" ["part", "number"] (dCons (dVar 0) (dCons (dVar 5) dNil))) sNext)
    (sDrop (dApp (dVar 4) (dBin dIxF (dVar 6) (dC (.int 0))))))
/-- look_at_part: slots 0=part 1=thing 2=most 3=fits 4=ahead 5=number 6=one -/
def den_p_look_at_part : DS :=
  (sSeq (sIf te_p_look_at_part_1 (sRaiseF "NoContract" ["part", "number"] (dCons (dVar 0) (dCons (dC .non) dNil))) sNext)
    (sSeq (sAsg (dLstC dNil) 4)
    (sFor (iEnu (dCons (dVar 1) dNil)) (gTp ((gNm 5) :: ((gNm 6) :: []))) bd_p_look_at_part_1)))
theorem okd_p_look_at_part : ∀ ds cs R XX, sem_p_look_at_part ds cs R XX → den_p_look_at_part { nx := fun c => R .non c.cs, rt := R, xx := fun x c => XX x c.cs } ⟨env0 7 ds, cs⟩ := by
  rintro ds cs R XX ⟨pt, d, mx, rfl, h, q0, q1⟩
  unfold den_p_look_at_part te_p_look_at_part_1 bd_p_look_at_part_1 te_p_look_at_part_2
  exact part_walk (F := dCallV 3 1 fs_p_look_at_part_fits (dCons (dVar 6) dNil)) (fit := shlB) h (fun e => shl_hd)
    (fun c e Q h3 h6 ge q => ⟨"is_shelf", sem_p_is_shelf, h3, if_pos rfl, _, h6, rfl, e, rfl, ge.1, q⟩) (fun z env cs' g => q0 z cs' g) fun n z env cs' g => q1 n z cs' g
def sem_p_look_at_part_L (Fl : LF) (ws : List L2.V) : SemX := fun ds cs R XX => ∃ pt d mx a kvs, ds = [pt, d, .int mx, .clo a Fl ws [.dic kvs]] ∧ Lg d ∧ (lookP (calB (inK kvs)) mx d = none → ∀ cs', Gr cs cs' → R .non cs') ∧ ∀ n, lookP (calB (inK kvs)) mx d = some n → ∀ cs', Gr cs cs' → XX (raisedC pt n) cs'
theorem len_p_look_at_part_L (Fl : LF) (ws : List L2.V) : ∀ ds cs R XX, sem_p_look_at_part_L Fl ws ds cs R XX → ds.length = 4 := by rintro ds cs R XX ⟨_, _, _, _, _, rfl, _⟩; rfl
def rd_lam : DE :=
  (dFn 2 sem_p_is_call (fun ds _ => ds) (dCons (dVar 0) (dCons (dVar 1) dNil)))
def bd_p_look_at_part_L_2 (Fl : LF) (ws : List L2.V) : DS :=
  (sSeq (sIf (dOrT (dNotT (dTru (dCallL 3 1 Fl ws rd_lam (dCons (dVar 6) dNil)))) (dTB (dBin dInL (dBin dIxF (dVar 6) (dC (.int 0))) (dVar 4)))) (sRaiseF "NoContract" ["part", "number"] (dCons (dVar 0) (dCons (dVar 5) dNil))) sNext)
    (sDrop (dApp (dVar 4) (dBin dIxF (dVar 6) (dC (.int 0))))))
/-- look_at_part, given a lambda -/
def den_p_look_at_part_L (Fl : LF) (ws : List L2.V) : DS :=
  (sSeq (sIf (dOrT (dNotT (dTru (dCall (fIsi "list") (dCons (dVar 1) (dCons (dC (.ty "list")) dNil))))) (dTB (dBin dGt (dCall fLen (dCons (dVar 1) dNil)) (dVar 2)))) (sRaiseF "NoContract" ["part", "number"] (dCons (dVar 0) (dCons (dC .non) dNil))) sNext)
    (sSeq (sAsg (dLstC dNil) 4)
    (sFor (iEnu (dCons (dVar 1) dNil)) (gTp ((gNm 5) :: ((gNm 6) :: []))) (bd_p_look_at_part_L_2 Fl ws))))
theorem okd_p_look_at_part_L (Fl : LF) (ws : List L2.V) : ∀ ds cs R XX, sem_p_look_at_part_L Fl ws ds cs R XX → den_p_look_at_part_L Fl ws { nx := fun c => R .non c.cs, rt := R, xx := fun x c => XX x c.cs } ⟨env0 7 ds, cs⟩ := by
  rintro ds cs R XX ⟨pt, d, mx, a, kvs, rfl, h, q0, q1⟩
  unfold den_p_look_at_part_L bd_p_look_at_part_L_2
  exact part_walk (F := dCallL 3 1 Fl ws rd_lam (dCons (dVar 6) dNil)) (fit := calB (inK kvs)) h (fun e => cal_hd)
    (fun c e Q h3 h6 ge q => ⟨a, _, h3, _, h6, rfl, _, rfl, _, rfl, rfl, e, kvs, rfl, ge.1, ge.2, q⟩) (fun z env cs' g => q0 z cs' g) fun n z env cs' g => q1 n z cs' g
/-! ### a whole contract -/
theorem partF_none {fit : D → Bool} : ∀ {ds : List D} {ah : List Str} {i : Nat}, partF fit ah i ds = none → (∀ d ∈ ds, fit d = true) ∧ (ds.map hd).Nodup ∧ ∀ x ∈ ds.map hd, x ∉ ah
  | [], _, _, _ => ⟨fun _ h => absurd h List.not_mem_nil, List.nodup_nil, fun _ h => absurd h List.not_mem_nil⟩
  | d :: ds, ah, i, h => by
    have h' : (if (!fit d || ah.contains (hd d)) = true then some i else partF fit (ah ++ [hd d]) (i + 1) ds) = none := h
    by_cases z : (!fit d || ah.contains (hd d)) = true
    · rw [if_pos z] at h'; cases h'
    · rw [if_neg z] at h'
      obtain ⟨a1, a2, a3⟩ := partF_none h'
      have z1 : fit d = true := by
        cases hf : fit d with
        | true => rfl
        | false => rw [hf] at z; exact absurd rfl z
      have z2 : hd d ∉ ah := fun hm => by
        rw [List.contains_iff_mem.mpr hm, Bool.or_true] at z; exact absurd rfl z
      refine ⟨List.forall_mem_cons.mpr ⟨z1, a1⟩, ?_, ?_⟩
      · rw [List.map_cons, List.nodup_cons]
        exact ⟨fun hm => a3 _ hm (List.mem_append_right _ List.mem_cons_self), a2⟩
      · rw [List.map_cons]
        exact List.forall_mem_cons.mpr ⟨z2, fun x hx hm => a3 x hx (List.mem_append_left _ hm)⟩
def namesS : D → List Str | .lst ss => ss.map hd | _ => []
def lookC : D → Option (D × D)
  | .tup [s, c] => match lookP shlB 4 s with
    | some n => some (.str "shelves", n)
    | none => (lookP (calB fun n => (namesS s).contains n) 12 c).map fun n => (D.str "calls", n)
  | _ => some (.non, .non)
/-- its pairs -/
def shP (d : D) : L2.Key × D := (.inr (hd d), match d with | .tup [_, n] => n | d => d)
theorem sh_pair {d : D} (h : shlB d = true) : pairD (shP d) = d := by
  unfold shlB at h
  split at h
  · obtain ⟨s, rfl⟩ := name_str (Bool.and_eq_true_iff.mp h).1; rfl
  · cases h
theorem sh_pairs : ∀ {ss : List D}, (∀ d ∈ ss, shlB d = true) → (ss.map shP).map pairD = ss
  | [], _ => rfl
  | d :: ss, h => by
    rw [List.map_cons, List.map_cons, sh_pair (h d List.mem_cons_self), sh_pairs fun e he => h e (List.mem_cons_of_mem _ he)]
theorem inK_sh (ss : List D) : inK (ss.map shP) = fun n => (ss.map hd).contains n := by
  funext n
  unfold inK lookD
  rw [Option.isSome_map]
  induction ss with
  | nil => rfl
  | cons d ss ih =>
    rw [List.map_cons, List.map_cons, List.find?_cons]
    show (match decide ((Sum.inr (hd d) : L2.Key) = Sum.inr n) with | true => some (shP d) | false => _).isSome = ((n == hd d) || (ss.map hd).contains n)
    by_cases e : hd d = n
    · subst e; simp
    · have e1 : decide ((Sum.inr (hd d) : L2.Key) = Sum.inr n) = false := decide_eq_false fun z => e (by injection z)
      rw [e1, beq_false_of_ne (Ne.symm e), Bool.false_or]
      exact ih
structure Tg (d : D) : Prop where
  k : kindly d
  l : ∀ s c, d = .tup [s, c] → Lg s ∧ Lg c
def TabH (cs : Cells) : Prop := HasTab "look_at_contract" "look_at_contract.<locals>.<lambda>" cs
theorem TabH.gr {cs cs' : Cells} (h : TabH cs) (g : Gr cs cs') : TabH cs' := h.elim fun k e => ⟨k, g k _ e⟩
def sem_p_look_at_contract : SemX := fun ds cs R XX => ∃ d, ds = [d] ∧ Tg d ∧ TabH cs ∧ (lookC d = none → ∀ cs', Gr cs cs' → R .non cs') ∧ ∀ p n, lookC d = some (p, n) → ∀ cs', Gr cs cs' → XX (raisedC p n) cs'
theorem len_p_look_at_contract : ∀ ds cs R XX, sem_p_look_at_contract ds cs R XX → ds.length = 1 := by rintro ds cs R XX ⟨_, rfl, _⟩; rfl
def te_p_look_at_contract_1 : DT :=
  (dOrT (dNotT (dTru (dCall (fIsi "tuple") (dCons (dVar 0) (dCons (dC (.ty "tuple")) dNil))))) (dTB (dBin dNe (dCall fLen (dCons (dVar 0) dNil)) (dC (.int 2)))))
/-- look_at_contract: slots 0=thing 1=shelves 2=calls 3=sizes -/
def den_p_look_at_contract : DS :=
  (sSeq (sIf te_p_look_at_contract_1 (sRaiseF "NoContract" ["part", "number"] (dCons (dC .non) (dCons (dC .non) dNil))) sNext)
    (sSeq (sAsgG (dVar 0) (gTp ((gNm 1) :: ((gNm 2) :: []))))
    (sSeq (sDropX (dFnX 4 sem_p_look_at_part (fun ds _ => ds) (dCons (dC (.str "shelves")) (dCons (dVar 1) (dCons (dC (.int 4)) (dCons (dC (.fn "is_shelf")) dNil))))))
    (sSeq (sAsg (dCall fDictP (dCons (dVar 1) dNil)) 3)
    (sDropX (dFnLX 3 "look_at_contract" "look_at_contract.<locals>.<lambda>" [3] sem_p_look_at_part_L (dCons (dC (.str "calls")) (dCons (dVar 2) (dCons (dC (.int 12)) dNil)))))))))
theorem lookP_none {fit : D → Bool} {mx : Int} {d : D} (h : lookP fit mx d = none) : ∃ ds, d = .lst ds ∧ (ds.length : Int) ≤ mx ∧ partF fit [] 0 ds = none := by
  unfold lookP at h
  split at h
  · rename_i ds
    by_cases z : mx < (ds.length : Int)
    · rw [if_pos z] at h; cases h
    · rw [if_neg z] at h
      refine ⟨ds, rfl, by omega, ?_⟩
      cases q : partF fit [] 0 ds with
      | none => rfl
      | some i => rw [q] at h; cases h
  · cases h
theorem lookC_no {d : D} (h : ∀ ds, d = .tup ds → (ds.length : Int) ≠ 2) : lookC d = some (.non, .non) := by
  unfold lookC
  split
  · exact absurd rfl (h _ rfl)
  · rfl
theorem lookC_s {s c n : D} (h : lookP shlB 4 s = some n) : lookC (.tup [s, c]) = some (.str "shelves", n) := by
  show (match lookP shlB 4 s with | some n => some (D.str "shelves", n) | none => _) = _
  rw [h]
theorem lookC_c {s c : D} (h : lookP shlB 4 s = none) : lookC (.tup [s, c]) = (lookP (calB fun n => (namesS s).contains n) 12 c).map fun n => (D.str "calls", n) := by
  show (match lookP shlB 4 s with | some n => some (D.str "shelves", n) | none => _) = _
  rw [h]
theorem merge_sh {ss : List D} (h : (ss.map hd).Nodup) : mergeD [] (ss.map shP) = ss.map shP := by
  rw [mergeD_app, List.nil_append]
  rw [List.map_nil, List.nil_append, List.map_map]
  have e : ss.map ((·.1) ∘ shP) = (ss.map hd).map (Sum.inr : Str → L2.Key) := by rw [List.map_map]; rfl
  rw [e]
  exact List.pairwise_map.mpr (h.imp fun hab e => hab (by injection e))
theorem okd_p_look_at_contract : ∀ ds cs R XX, sem_p_look_at_contract ds cs R XX → den_p_look_at_contract { nx := fun c => R .non c.cs, rt := R, xx := fun x c => XX x c.cs } ⟨env0 4 ds, cs⟩ := by
  rintro ds cs R XX ⟨d, rfl, h, hT, q0, q1⟩
  unfold den_p_look_at_contract te_p_look_at_contract_1 sRaiseF sDropX dFnX dFnLX gTp
  simp only [sSeq, e_if]
  refine te_tupN2 h.k (by rfl) (fun z => ?_) fun ds e hl => ?_
  · refine iteT' rfl ?_
    exact ⟨rfl, by decide, q1 _ _ (lookC_no z) _ .refl⟩
  · subst e
    obtain ⟨s, c, rfl⟩ := len2 hl
    obtain ⟨hs, hc⟩ := h.l s c rfl
    refine iteF' (by decide) ?_
    k_search at1
    refine ⟨_, rfl, rfl, ?_⟩
    k_search at1
    refine ⟨_, s, 4, rfl, hs, fun z cs1 g1 => ?_, fun n z cs1 g1 => q1 _ n (lookC_s z) cs1 g1⟩
    rw [lookC_c z] at q0 q1
    obtain ⟨ss, rfl, hl4, hp⟩ := lookP_none z
    obtain ⟨a1, a2, a3⟩ := partF_none hp
    unfold fDictP
    refine ⟨_, ss.map shP, rfl, by rw [sh_pairs a1]; rfl, ?_⟩
    rw [merge_sh a2]
    refine ⟨_, rfl, hT.gr g1, [.dic (ss.map shP)], rfl, fun a Fl ws => ⟨_, c, 12, a, ss.map shP, rfl, hc, ?_, ?_⟩⟩
    · rw [inK_sh]
      exact fun z cs2 g2 => q0 (by rw [show (fun n => (namesS (.lst ss)).contains n) = fun n => (ss.map hd).contains n from rfl, z]; rfl) cs2 (g1.trans g2)
    · rw [inK_sh]
      exact fun n z cs2 g2 => q1 _ n (by rw [show (fun n => (namesS (.lst ss)).contains n) = fun n => (ss.map hd).contains n from rfl, z]; rfl) cs2 (g1.trans g2)
local macro_rules | `(tactic| k_search $t) => `(tactic| simp only [$t:term, sNext, sSeq, sAsg, sRet, sRetN, sDrop, e_if, sBreak, sCont, sAsgG, e_par, e_par3, gNm, e_set, e_setC, gList, dVar, dC, dBin, e_int2, e_add_ii, e_add_ib, e_add_ss, e_add_ll, e_add_tt, dSub, dMul, dDiv, dMod, dPow, dShl, dShr, dAnd, dOr, dXor, e_neg, dLt, dLe, dGt, dGe, e_eq_ii, e_eq_bb, e_eq_ss, e_ne_ii, e_ne_bb, e_ne_ss, e_eq_l, e_eq_sl, e_eq_t, e_eq_n, e_ne_l, e_ne_sl, e_ne_t, e_ne_n, e_chain, dTru, e_tb, e_tru_n, e_tru_b, e_tru_i, e_tru_l, e_tru_sl, e_tru_t, e_tru_d, e_andT, e_orT, dNotT, e_andV, e_orV, dNotV, e_ifE, onB_t, onB_f, onB_dec, onB_ndec, onB_not, onI_i, dNil, dCons, dTup, dLst, dLstC, dCall, dFn, dFnK, e_abs, e_max, e_min, e_int_i, e_int_b, e_len_l, e_len_sl, e_len_t, e_len_d, e_len_s, e_len_c, e_sum_l, e_ix_l, e_ix_sl, e_ix_t, e_ix_c, e_ix_s, e_ix_di, e_ix_ds, dSl, e_sl_l, e_sl_sl, e_sl_t, e_sl_s, dNoPart, e_part, iSeq, iTp, e_rng1, iRng2, sFor, sWhile, dDNew, dIsN, dIsNotN, isNon, env0,
  List.map_cons, List.map_nil, List.length_cons, List.length_nil, List.replicate, List.cons_append, List.nil_append, List.append_nil, Nat.sub_self, Nat.reduceSub, Nat.reduceAdd, List.getElem?_cons_zero, List.getElem?_cons_succ, List.set_cons_zero, List.set_cons_succ, Option.some.injEq, Co.lst.injEq, exists_eq_left', exists_eq_left, exists_and_left, List.cons.injEq, decide_eq_true_eq, true_and, and_true, decide_true, decide_false, if_true, if_false, Bool.false_eq_true, Bool.not_true, Bool.not_false, listD, intsOf_map, put_same, put_put, at0, at1, at2, at3, at4, at5, ix20, ix21, sizeLine_eq, Nat.reduceLeDiff, Int.reduceLT, Int.reduceLE, Int.reduceNeg, gt_iff_lt, ge_iff_le, Int.one_mul, wipeD, TgN.vs, List.foldr_cons, List.foldr_nil, tgSet, fStr_i, fReprD_d, e_gtp, onCel_c, onDic_d, onKey_i, onKey_s, dIxC, dInC, dNotInC, dInCN, dUpd, dFrz, dFrzD, e_isB, cellD_dic, cellD_fdic, dBits, dDNewC, Co.dic.injEq, exists_eq', eq_self, and_self, e_enum, e_zip])
local macro_rules | `(tactic| walk_at "dl") => `(tactic| k_search put_same)
local macro_rules | `(tactic| walk_at "nd") => `(tactic| (simp only [List.map_cons, List.map_nil, List.cons_append, List.nil_append, List.append_nil]; decide +kernel))
local macro_rules | `(tactic| walk_at "asm") => `(tactic| repeat (refine And.intro (by assumption) ?_))
/-! ### what is due -/
def sayC (p n : D) : Str := ((pyE p).shown ++ (" " : Str)) ++ (pyE n).shown
def dueS (d : D) : Str := match lookC d with | none => "good" | some (p, n) => sayC p n
theorem due_no {d p n : D} (h : lookC d = some (p, n)) : dueS d = sayC p n := by unfold dueS; rw [h]
theorem due_good {d : D} (h : lookC d = none) : dueS d = "good" := by unfold dueS; rw [h]
theorem say_nn : sayC .non .non = ("None None" : Str) := by decide +kernel
theorem say_sn : sayC (.str "shelves") .non = ("'shelves' None" : Str) := by decide +kernel
theorem say_cn : sayC (.str "calls") .non = ("'calls' None" : Str) := by decide +kernel
theorem say_s (n : D) : sayC (.str "shelves") n = ("'shelves' " : Str) ++ (pyE n).shown := by
  have e : (pyE (.str "shelves")).shown ++ (" " : Str) = ("'shelves' " : Str) := by decide +kernel
  unfold sayC; rw [e]
theorem say_c (n : D) : sayC (.str "calls") n = ("'calls' " : Str) ++ (pyE n).shown := by
  have e : (pyE (.str "calls")).shown ++ (" " : Str) = ("'calls' " : Str) := by decide +kernel
  unfold sayC; rw [e]
theorem lookP_big {fit : D → Bool} {mx : Int} {l : List D} (h : mx < (l.length : Int)) : lookP fit mx (.lst l) = some .non := by unfold lookP; exact if_pos h
theorem lookP_in {fit : D → Bool} {mx : Int} {l : List D} (h : ¬ mx < (l.length : Int)) : lookP fit mx (.lst l) = (partF fit [] 0 l).map fun (i : Nat) => .int (i : Int) := by unfold lookP; exact if_neg h
/-- not a list, or of more than mx -/
theorem te_lst {j : Int} {mx : Int} {d x : D} {c : Z} {R : Bool → Z → Prop} (h : Lg x) (e : c.env[0]? = some (some d)) (hx : ∀ (c : Z) (Q : D → Z → Prop), Q x c → dIxF d (.int j) c Q) (q0 : (∀ l, x = .lst l → mx < (l.length : Int)) → R true c) (q1 : ∀ l, x = .lst l → ¬ mx < (l.length : Int) → R false c) :
    (dOrT (dNotT (dTru (dCall (fIsi "list") (dCons (dBin dIxF (dVar 0) (dC (.int j))) (dCons (dC (.ty "list")) dNil))))) (dTB (dBin dGt (dCall fLen (dCons (dBin dIxF (dVar 0) (dC (.int j))) dNil)) (dC (.int mx))))) c R := by
  k_search e
  refine hx _ _ ?_
  rw [isi_list h.k]
  match x, h, q0, q1, hx with
  | .lst rows, h, q0, q1, hx =>
    refine ⟨true, rfl, ?_⟩
    k_search e
    refine hx _ _ ?_
    k_search e
    exact ite_both (fun z => q0 fun l e => by cases e; exact z) fun z => q1 _ rfl z
  | .non, _, q0, _, _ => exact ⟨false, rfl, q0 fun _ e => by cases e⟩
  | .bl b, _, q0, _, _ => exact ⟨false, rfl, q0 fun _ e => by cases e⟩
  | .int b, _, q0, _, _ => exact ⟨false, rfl, q0 fun _ e => by cases e⟩
  | .str b, _, q0, _, _ => exact ⟨false, rfl, q0 fun _ e => by cases e⟩
  | .slst b, h, _, _, _ => exact absurd rfl (h.s b)
  | .tup b, _, q0, _, _ => exact ⟨false, rfl, q0 fun _ e => by cases e⟩
  | .dic b, _, q0, _, _ => exact ⟨false, rfl, q0 fun _ e => by cases e⟩
theorem big_no {fit : D → Bool} {mx : Int} {x : D} (h : ∀ l, x = .lst l → mx < (l.length : Int)) : lookP fit mx x = some .non := by
  cases x <;> first | rfl | skip
  exact lookP_big (h _ rfl)
theorem num_ok {t n : Nat} {w : Str} (h : t < n) (hn : n ≤ 100) (hw : w.length ≤ 100) : (-(2 : Int) ^ 200 < (t : Int) ∧ (t : Int) < 2 ^ 200) ∧ w.length + (Str.ofString (toString (t : Int))).length ≤ 16777216 := by
  have b : -(2 : Int) ^ 200 < (t : Int) ∧ (t : Int) < 2 ^ 200 := by constructor <;> omega
  have l := (smallE_shown (d := .int (t : Int)) b).2
  have l' : (Str.ofString (toString (t : Int))).length ≤ 400 := l
  exact ⟨b, by omega⟩
theorem say_num {w : Str} {t n : Nat} {c : Z} {cs : Cells} {R : D → Cells → Prop} (h : t < n) (hn : n ≤ 100) (hw : w.length ≤ 100) (g : Gr cs c.cs) (q : R (.str (w ++ (pyE (.int (t : Int))).shown)) cs) :
    fStr [.int (t : Int)] c fun y c2 => dAdd (.str w) y c2 fun d c1 => ∃ cs', (∀ k o, cs' k = some o → c1.cs k = some o) ∧ R d cs' := by
  obtain ⟨b, l⟩ := num_ok h hn hw
  rw [fStr_i]
  exact ⟨b, by rw [e_add_ss, sizeLine_eq]; exact ⟨l, cs, g, q⟩⟩
theorem shl_nm {d : D} (h : shlB d = true) : nameB (.str (hd d)) = true := by
  unfold shlB at h
  split at h
  · obtain ⟨h1, _⟩ := Bool.and_eq_true_iff.mp h
    obtain ⟨s, rfl⟩ := name_str h1
    exact h1
  · cases h
def sem_l_due : Sem := fun ds cs R => ∃ d, ds = [d] ∧ Tg d ∧ R (.str (dueS d)) cs
theorem len_l_due : ∀ ds cs R, sem_l_due ds cs R → ds.length = 1 := by rintro ds cs R ⟨_, rfl, _⟩; rfl
def te_l_due_1 : DT :=
  (dOrT (dNotT (dTru (dCall (fIsi "tuple") (dCons (dVar 0) (dCons (dC (.ty "tuple")) dNil))))) (dTB (dBin dNe (dCall fLen (dCons (dVar 0) dNil)) (dC (.int 2)))))
def te_l_due_2 : DT :=
  (dOrT (dNotT (dTru (dCall (fIsi "list") (dCons (dBin dIxF (dVar 0) (dC (.int 0))) (dCons (dC (.ty "list")) dNil))))) (dTB (dBin dGt (dCall fLen (dCons (dBin dIxF (dVar 0) (dC (.int 0))) dNil)) (dC (.int 4)))))
def te_l_due_3 : DT :=
  (dOrT (dNotT (dTru (dFn 1 sem_l_is_shelf (fun ds _ => ds) (dCons (dVar 3) dNil)))) (dTB (dBin dInL (dBin dIxF (dVar 3) (dC (.int 0))) (dVar 1))))
def bd_l_due_1 : DS :=
  (sSeq (sIf te_l_due_3 (sRet (dTidy (dBin dAdd (dC (.str "'shelves' ")) (dCall fStr (dCons (dVar 2) dNil))))) sNext)
    (sDrop (dApp (dVar 1) (dBin dIxF (dVar 3) (dC (.int 0))))))
def te_l_due_4 : DT :=
  (dOrT (dNotT (dTru (dCall (fIsi "list") (dCons (dBin dIxF (dVar 0) (dC (.int 1))) (dCons (dC (.ty "list")) dNil))))) (dTB (dBin dGt (dCall fLen (dCons (dBin dIxF (dVar 0) (dC (.int 1))) dNil)) (dC (.int 12)))))
def ex_l_due_1 : DE :=
  (dLc (iSeq (dSl (dBin dIxF (dVar 0) (dC (.int 1))) dNoPart (dPart (dVar 2)))) (.one 4) dYes (dBin dIxF (dVar 4) (dC (.int 0))))
def te_l_due_5 : DT :=
  (dOrT (dNotT (dTru (dFn 2 sem_l_is_call (fun ds _ => ds) (dCons (dVar 3) (dCons (dVar 1) dNil))))) (dTB (dBin dIn (dBin dIxF (dVar 3) (dC (.int 0))) ex_l_due_1)))
def bd_l_due_2 : DS :=
  (sIf te_l_due_5 (sRet (dTidy (dBin dAdd (dC (.str "'calls' ")) (dCall fStr (dCons (dVar 2) dNil))))) sNext)
/-- _law_due: slots 0=_law_thing 1=_law_names 2=_law_number 3=_law_one 4=_law_other -/
def den_l_due : DS :=
  (sSeq (sIf te_l_due_1 (sRet (dTidy (dC (.str "None None")))) sNext)
    (sSeq (sAsg (dLstC dNil) 1)
    (sSeq (sIf te_l_due_2 (sRet (dTidy (dC (.str "'shelves' None")))) sNext)
    (sSeq (sFor (iEnu (dCons (dBin dIxF (dVar 0) (dC (.int 0))) dNil)) (gTp ((gNm 2) :: ((gNm 3) :: []))) bd_l_due_1)
    (sSeq (sIf te_l_due_4 (sRet (dTidy (dC (.str "'calls' None")))) sNext)
    (sSeq (sFor (iEnu (dCons (dBin dIxF (dVar 0) (dC (.int 1))) dNil)) (gTp ((gNm 2) :: ((gNm 3) :: []))) bd_l_due_2)
    (sRet (dTidy (dC (.str "good"))))))))))
theorem okd_l_due : ∀ ds cs R, sem_l_due ds cs R → den_l_due { nx := fun c => R .non c.cs, rt := R } ⟨env0 5 ds, cs⟩ := by
  rintro ds cs R ⟨d, rfl, h, q⟩
  unfold den_l_due te_l_due_1 dTidy
  simp only [sSeq, e_if]
  refine te_tupN2 h.k (by rfl) (fun z => ?_) fun ds e hl => ?_
  · refine iteT' rfl ?_
    rw [due_no (lookC_no z), say_nn] at q
    exact ⟨cs, fun _ _ e => e, q⟩
  · subst e
    obtain ⟨s, c, rfl⟩ := len2 hl
    obtain ⟨hs, hc⟩ := h.l s c rfl
    refine iteF' (by decide) ?_
    k_search isTup
    intro k hk
    unfold te_l_due_2
    refine te_lst hs rfl (fun c Q z => ⟨_, at0, z⟩) (fun z => ?_) fun ss e z => ?_
    · rw [due_no (lookC_s (big_no z)), say_sn] at q
      exact iteT' rfl ⟨cs, Gr.put hk, q⟩
    · subst e
      refine iteF' (by decide) ?_
      k_search at0
      obtain ⟨hsl, hsg⟩ := hs.r ss rfl
      refine ⟨fun t c1 => (∃ e2 e3, c1 = ⟨[some (.tup [.lst ss, c]), some (.cel k), e2, e3, none], put cs k (.lst ((aheadL ss t).map D.str))⟩) ∧ partF shlB (aheadL ss t) t (ss.drop t) = partF shlB [] 0 ss, ⟨⟨_, _, rfl⟩, rfl⟩, ?_, ?_⟩
      · rintro t p c2 ht ⟨⟨e2, e3, rfl⟩, hb⟩
        obtain ⟨e, he, rfl⟩ := enumD_get ht
        have htl : t < ss.length := (List.getElem?_eq_some_iff.mp he).1
        rw [drop_at he] at hb
        have ge := hsg e (List.mem_of_getElem? he)
        have hb' : (if (!shlB e || (aheadL ss t).contains (hd e)) = true then some t else partF shlB (aheadL ss t ++ [hd e]) (t + 1) (ss.drop (t + 1))) = partF shlB [] 0 ss := hb
        have ea : aheadL ss (t + 1) = aheadL ss t ++ [hd e] := by
          unfold aheadL
          rw [List.take_add_one, he, List.map_append]; rfl
        have bad : partF shlB [] 0 ss = some t → R (.str (("'shelves' " : Str) ++ (pyE (.int (t : Int))).shown)) cs := fun e => by
          rw [due_no (lookC_s (n := .int (t : Int)) (by rw [lookP_in z, e]; rfl)), say_s] at q
          exact q
        unfold bd_l_due_1 te_l_due_3 dTidy
        k_search sem_l_is_shelf
        refine ⟨ge.1, ?_⟩
        cases hf : shlB e with
        | false =>
          rw [hf] at hb'
          exact iteT' rfl ⟨(num_ok htl hsl (w := "'shelves' ") (by decide +kernel)).1, (num_ok htl hsl (w := "'shelves' ") (by decide +kernel)).2, cs, Gr.put hk, bad (by rw [← hb']; rfl)⟩
        | true =>
          rw [hf] at hb'
          obtain ⟨x, r, rfl⟩ := hdS_is (shl_hd hf)
          refine iteF' (by decide) ⟨_, at0, _, rfl, _, put_same, rfl, strs_flat _, ?_⟩
          show onB (.bl (((aheadL ss t).map D.str).any fun d => eqF d (.str x))) _ _
          rw [any_strs, any_cont]
          have hb2 : (if ((aheadL ss t).contains x) = true then some t else partF shlB (aheadL ss t ++ [x]) (t + 1) (ss.drop (t + 1))) = partF shlB [] 0 ss := hb'
          cases hc : (aheadL ss t).contains x with
          | true =>
            rw [hc, if_pos rfl] at hb2
            exact ⟨_, rfl, say_num htl hsl (by decide +kernel) (Gr.put hk) (bad hb2.symm)⟩
          | false =>
            rw [hc, if_neg (by decide)] at hb2
            unfold dApp
            k_search at0
            have ea' : aheadL ss (t + 1) = aheadL ss t ++ [x] := ea
            rw [ea']
            refine ⟨by rw [List.length_map]; unfold aheadL; rw [List.length_map, List.length_take]; omega, ⟨_, _, by rw [List.map_append]; rfl⟩, hb2⟩
      · rintro c2 ⟨⟨e2, e3, rfl⟩, hb⟩
        have hn : partF shlB [] 0 ss = none := by rw [← hb, enumD_length, List.drop_length]; rfl
        have hz : lookP shlB 4 (.lst ss) = none := by rw [lookP_in z, hn]; rfl
        have ean : aheadL ss (enumD ss).length = ss.map hd := by unfold aheadL; rw [enumD_length, List.take_length]
        rw [ean]
        obtain ⟨a1, a2, a3⟩ := partF_none hn
        have hnm : ∀ x ∈ ss.map hd, nameB (.str x) = true := fun x hx => by
          obtain ⟨e, he, rfl⟩ := List.mem_map.mp hx
          exact shl_nm (a1 e he)
        unfold te_l_due_4
        refine te_lst hc rfl (fun c Q z => ⟨_, at1, z⟩) (fun y => ?_) fun cc e y => ?_
        · rw [due_no (by rw [lookC_c hz, big_no y]; rfl), say_cn] at q
          exact iteT' rfl ⟨cs, Gr.put hk, q⟩
        · subst e
          refine iteF' (by decide) ?_
          obtain ⟨hcl, hcg⟩ := hc.r cc rfl
          refine ⟨_, rfl, _, at1, _, rfl, fun t c1 => (∃ e2 e3, c1 = ⟨[some (.tup [.lst ss, .lst cc]), some (.cel k), e2, e3, none], put cs k (.lst ((ss.map hd).map D.str))⟩) ∧ (∀ e ∈ cc.take t, hdS e = true) ∧ partF (calB fun n => (ss.map hd).contains n) (aheadL cc t) t (cc.drop t) = partF (calB fun n => (ss.map hd).contains n) [] 0 cc, ⟨⟨_, _, rfl⟩, fun _ h => absurd h List.not_mem_nil, rfl⟩, ?_, ?_⟩
          · rintro t p c2 ht ⟨⟨e2, e3, rfl⟩, hg, hb⟩
            obtain ⟨e, he, rfl⟩ := enumD_get ht
            have htl : t < cc.length := (List.getElem?_eq_some_iff.mp he).1
            rw [drop_at he] at hb
            have ge := hcg e (List.mem_of_getElem? he)
            have hb' : (if (!calB (fun n => (ss.map hd).contains n) e || (aheadL cc t).contains (hd e)) = true then some t else partF (calB fun n => (ss.map hd).contains n) (aheadL cc t ++ [hd e]) (t + 1) (cc.drop (t + 1))) = partF (calB fun n => (ss.map hd).contains n) [] 0 cc := hb
            have ea : aheadL cc (t + 1) = aheadL cc t ++ [hd e] := by
              unfold aheadL
              rw [List.take_add_one, he, List.map_append]; rfl
            have bad : partF (calB fun n => (ss.map hd).contains n) [] 0 cc = some t → R (.str (("'calls' " : Str) ++ (pyE (.int (t : Int))).shown)) cs := fun e => by
              rw [due_no (p := .str "calls") (n := .int (t : Int)) (by rw [lookC_c hz, show (fun n => (namesS (.lst ss)).contains n) = fun n => (ss.map hd).contains n from rfl, lookP_in y, e]; rfl), say_c] at q
              exact q
            refine ⟨_, rfl, rfl, ?_⟩
            unfold bd_l_due_2 te_l_due_5 dTidy
            k_search isTup
            refine ⟨e, k, ss.map hd, rfl, put_same, hnm, ge.1, ge.2, ?_⟩
            cases hf : calB (fun n => (ss.map hd).contains n) e with
            | false =>
              rw [hf] at hb'
              exact ⟨_, rfl, iteT' rfl ⟨(num_ok htl hcl (w := "'calls' ") (by decide +kernel)).1, (num_ok htl hcl (w := "'calls' ") (by decide +kernel)).2, cs, Gr.put hk, bad (by rw [← hb']; rfl)⟩⟩
            | true =>
              rw [hf] at hb'
              obtain ⟨x, r, rfl⟩ := hdS_is (cal_hd hf)
              refine ⟨_, rfl, iteF' (by decide) ⟨_, at0, ?_⟩⟩
              unfold ex_l_due_1 dLc
              k_search at1
              rw [cut_to]
              have hkk : ∀ k2, put cs k (.lst ((ss.map hd).map D.str)) k2 = none → True := fun _ _ => trivial
              refine fun k2 hk2 => lc_heads hk2 (by rw [List.length_take]; omega) hg (fun _ => rfl) ?_
              have eh : ((cc.take t).map fun t => D.str (hd t)) = (aheadL cc t).map D.str := by unfold aheadL; rw [List.map_map]; rfl
              rw [eh]
              refine ⟨_, rfl, rfl, strs_flat _, ?_⟩
              show onB (.bl (((aheadL cc t).map D.str).any fun d => eqF d (.str x))) _ _
              rw [any_strs, any_cont]
              have hb2 : (if ((aheadL cc t).contains x) = true then some t else partF (calB fun n => (ss.map hd).contains n) (aheadL cc t ++ [x]) (t + 1) (cc.drop (t + 1))) = partF (calB fun n => (ss.map hd).contains n) [] 0 cc := hb'
              cases hc : (aheadL cc t).contains x with
              | true =>
                rw [hc, if_pos rfl] at hb2
                exact ⟨_, rfl, say_num htl hcl (by decide +kernel) (Gr.put hk) (bad hb2.symm)⟩
              | false =>
                rw [hc, if_neg (by decide)] at hb2
                refine ⟨⟨_, _, rfl⟩, fun e hm => ?_, by rw [show aheadL cc (t + 1) = aheadL cc t ++ [x] from ea]; exact hb2⟩
                rw [List.take_add_one, he] at hm
                rcases List.mem_append.mp hm with hm | hm
                · exact hg e hm
                · rw [List.mem_singleton.mp hm]; rfl
          · rintro c2 ⟨⟨e2, e3, rfl⟩, _, hb⟩
            have hn2 : partF (calB fun n => (ss.map hd).contains n) [] 0 cc = none := by rw [← hb, enumD_length, List.drop_length]; rfl
            rw [due_good (by rw [lookC_c hz, show (fun n => (namesS (.lst ss)).contains n) = fun n => (ss.map hd).contains n from rfl, lookP_in y, hn2]; rfl)] at q
            exact ⟨cs, Gr.put hk, q⟩
local macro_rules | `(tactic| k_search $t) => `(tactic| simp only [$t:term, sNext, sSeq, sAsg, sRet, sRetN, sDrop, e_if, sBreak, sCont, sAsgG, e_par, e_par3, gNm, e_set, e_setC, gList, dVar, dC, dBin, e_int2, e_add_ii, e_add_ib, e_add_ss, e_add_ll, e_add_tt, dSub, dMul, dDiv, dMod, dPow, dShl, dShr, dAnd, dOr, dXor, e_neg, dLt, dLe, dGt, dGe, e_eq_ii, e_eq_bb, e_eq_ss, e_ne_ii, e_ne_bb, e_ne_ss, e_eq_l, e_eq_sl, e_eq_t, e_eq_n, e_ne_l, e_ne_sl, e_ne_t, e_ne_n, e_chain, dTru, e_tb, e_tru_n, e_tru_b, e_tru_i, e_tru_l, e_tru_sl, e_tru_t, e_tru_d, e_andT, e_orT, dNotT, e_andV, e_orV, dNotV, e_ifE, onB_t, onB_f, onB_dec, onB_ndec, onB_not, onI_i, dNil, dCons, dTup, dLst, dLstC, dCall, dFn, dFnK, e_abs, e_max, e_min, e_int_i, e_int_b, e_len_l, e_len_sl, e_len_t, e_len_d, e_len_s, e_len_c, e_sum_l, e_ix_l, e_ix_sl, e_ix_t, e_ix_c, e_ix_s, e_ix_di, e_ix_ds, dSl, e_sl_l, e_sl_sl, e_sl_t, e_sl_s, dNoPart, e_part, iSeq, iTp, e_rng1, iRng2, sFor, sWhile, dDNew, dIsN, dIsNotN, isNon, env0,
  List.map_cons, List.map_nil, List.length_cons, List.length_nil, List.replicate, List.cons_append, List.nil_append, List.append_nil, Nat.sub_self, Nat.reduceSub, Nat.reduceAdd, List.getElem?_cons_zero, List.getElem?_cons_succ, List.set_cons_zero, List.set_cons_succ, Option.some.injEq, Co.lst.injEq, exists_eq_left', exists_eq_left, exists_and_left, List.cons.injEq, decide_eq_true_eq, true_and, and_true, decide_true, decide_false, if_true, if_false, Bool.false_eq_true, Bool.not_true, Bool.not_false, listD, intsOf_map, put_same, put_put, at0, at1, at2, at3, at4, at5, ix20, ix21, sizeLine_eq, Nat.reduceLeDiff, Int.reduceLT, Int.reduceLE, Int.reduceNeg, gt_iff_lt, ge_iff_le, Int.one_mul, wipeD, TgN.vs, List.foldr_cons, List.foldr_nil, tgSet, fStr_i, fReprD_d, e_gtp, onCel_c, onDic_d, onKey_i, onKey_s, dIxC, dInC, dNotInC, dInCN, dUpd, dFrz, dFrzD, e_isB, cellD_dic, cellD_fdic, dBits, dDNewC, Co.dic.injEq, exists_eq', eq_self, and_self, e_enum, e_zip])
local macro_rules | `(tactic| walk_at "dl") => `(tactic| k_search put_same)
local macro_rules | `(tactic| walk_at "nd") => `(tactic| (simp only [List.map_cons, List.map_nil, List.cons_append, List.nil_append, List.append_nil]; decide +kernel))
local macro_rules | `(tactic| walk_at "asm") => `(tactic| repeat (refine And.intro (by assumption) ?_))
/-! ### what is told -/
theorem partF_lt {fit : D → Bool} : ∀ {ds : List D} {ah : List Str} {i j : Nat}, partF fit ah i ds = some j → j < i + ds.length
  | [], _, _, _, h => by cases h
  | d :: ds, ah, i, j, h => by
    have h' : (if (!fit d || ah.contains (hd d)) = true then some i else partF fit (ah ++ [hd d]) (i + 1) ds) = some j := h
    rw [List.length_cons]
    by_cases z : (!fit d || ah.contains (hd d)) = true
    · rw [if_pos z] at h'; cases h'; omega
    · rw [if_neg z] at h'
      have := partF_lt h'; omega
theorem lookP_ok {fit : D → Bool} {mx : Int} {d n : D} (h : Lg d) (e : lookP fit mx d = some n) : AD 0 400 n := by
  unfold lookP at e
  split at e
  · rename_i ds
    by_cases z : mx < (ds.length : Int)
    · rw [if_pos z] at e; cases e; exact ad_non
    · rw [if_neg z] at e
      cases q : partF fit [] 0 ds with
      | none => rw [q] at e; cases e
      | some i =>
        rw [q] at e
        cases e
        have := partF_lt q
        have := (h.r ds rfl).1
        exact ad_int (by constructor <;> omega)
  · cases e; exact ad_non
theorem lookC_ok {d p n : D} (h : Tg d) (e : lookC d = some (p, n)) : AD 0 400 p ∧ AD 0 400 n := by
  unfold lookC at e
  split at e
  · rename_i s c
    obtain ⟨hs, hc⟩ := h.l s c rfl
    split at e
    · rename_i m hm
      cases e
      exact ⟨ad_str, lookP_ok hs hm⟩
    · cases q : lookP (calB fun n => (namesS s).contains n) 12 c with
      | none => rw [q] at e; cases e
      | some m =>
        rw [q] at e
        cases e
        exact ⟨ad_str, lookP_ok hc q⟩
  · cases e; exact ⟨ad_non, ad_non⟩
theorem rep_len {d : D} (h : AD 0 400 d) : (pyE d).shown.length ≤ 400 := Nat.le_trans (smallE_shown h.k.ok.1).2 h.w
theorem str_len (a b : Str) : (a ++ b).length = a.length + b.length := by
  show (a.cps ++ b.cps).size = _
  rw [Array.size_append]; rfl
def sem_l_told : Sem := fun ds cs R => ∃ d, ds = [d] ∧ Tg d ∧ TabH cs ∧ R (.str (dueS d)) cs
theorem len_l_told : ∀ ds cs R, sem_l_told ds cs R → ds.length = 1 := by rintro ds cs R ⟨_, rfl, _⟩; rfl
def subT_GateError (r : Str) : Option Bool := if r = "NoContract" then some true else if r = "NoCall" then some false else none
def subT_NoCall (r : Str) : Option Bool := if r = "NoContract" then some false else if r = "NoCall" then some true else none
open Classical in
open Classical in
open Classical in
open Classical in
def isK_GateError (r : Str) : Option Bool := if r = "NoContract" then some true else if r = "NoCall" then some false else none
def isK_KeyError (r : Str) : Option Bool := if r = "NoContract" then some false else if r = "NoCall" then some true else none
def isK_NoContract (r : Str) : Option Bool := if r = "NoContract" then some true else if r = "NoCall" then some false else none
def isK_NoProgram (r : Str) : Option Bool := if r = "NoContract" then some false else if r = "NoCall" then some false else none
def fldT_name (r : Str) : Bool := if r = "NoCall" then true else false
def fldT_number (r : Str) : Bool := if r = "NoContract" then true else false
def fldT_part (r : Str) : Bool := if r = "NoContract" then true else false
def te_l_told_1 : DT :=
  (dOrT (dNotT (dTru (dIsX isK_NoContract (dVar 1)))) (dTru (dIsX isK_NoProgram (dVar 1))))
/-- _law_told: slots 0=_law_thing 1=_law_error 2=_law_found 3=e -/
def den_l_told : DS :=
  (sSeq (sAsg (dC .non) 1)
    (sSeq (sAsg (dC .non) 2)
    (sSeq (sTryKeep subT_GateError 3 (sAsgX (dFnX 1 sem_p_look_at_contract (fun ds _ => ds) (dCons (dVar 0) dNil)) 2) (sAsg (dVar 3) 1))
    (sSeq (sIf (dTB (dIsN (dVar 1))) (sRet (dTidy (dBin dIxF (dLst (dCons (dC (.str "odd")) (dCons (dC (.str "good")) dNil))) (dCall fInt (dCons (dIsN (dVar 2)) dNil))))) sNext)
    (sSeq (sIf te_l_told_1 (sRet (dTidy (dC (.str "odd")))) sNext)
    (sRet (dTidy (dBin dAdd (dBin dAdd (dCall fReprE (dCons (dXF fldT_part "part" (dVar 1)) dNil)) (dC (.str " "))) (dCall fReprE (dCons (dXF fldT_number "number" (dVar 1)) dNil))))))))))
theorem okd_l_told : ∀ ds cs R, sem_l_told ds cs R → den_l_told { nx := fun c => R .non c.cs, rt := R } ⟨env0 4 ds, cs⟩ := by
  rintro ds cs R ⟨d, rfl, h, hT, q⟩
  unfold den_l_told sTryKeep sAsgX dFnX te_l_told_1 dTidy dIsX dXF
  walk_at "dl"
  refine ⟨d, rfl, h, hT, fun z cs1 g1 => ?_, fun p n z cs1 g1 => ?_⟩
  · rw [due_good z] at q
    walk_at "dl"
    exact ⟨cs, g1, q⟩
  · rw [due_no z] at q
    obtain ⟨hp, hn⟩ := lookC_ok h z
    have lp := rep_len hp
    have ln := rep_len hn
    refine ⟨true, rfl, fun _ k hk => ⟨_, rfl, true, rfl, iteF' (by decide) ⟨_, rfl, false, rfl, iteF' (by decide) ⟨_, rfl, rfl, _, rfl, p, rfl, rep_ad hp (by decide) (by decide) ?_⟩⟩⟩, fun z => nomatch z⟩
    rw [e_add_ss]
    refine ⟨by rw [sizeLine_eq]; show _ + 1 ≤ _; omega, _, rfl, _, put_same, rfl, _, rfl, n, rfl, rep_ad hn (by decide) (by decide) ?_⟩
    rw [e_add_ss]
    exact ⟨by rw [sizeLine_eq, str_len]; show (_ + 1) + _ ≤ _; omega, cs, g1.trans (.put hk), q⟩
local macro_rules | `(tactic| k_search $t) => `(tactic| simp only [$t:term, sNext, sSeq, sAsg, sRet, sRetN, sDrop, e_if, sBreak, sCont, sAsgG, e_par, e_par3, gNm, e_set, e_setC, gList, dVar, dC, dBin, e_int2, e_add_ii, e_add_ib, e_add_ss, e_add_ll, e_add_tt, dSub, dMul, dDiv, dMod, dPow, dShl, dShr, dAnd, dOr, dXor, e_neg, dLt, dLe, dGt, dGe, e_eq_ii, e_eq_bb, e_eq_ss, e_ne_ii, e_ne_bb, e_ne_ss, e_eq_l, e_eq_sl, e_eq_t, e_eq_n, e_ne_l, e_ne_sl, e_ne_t, e_ne_n, e_chain, dTru, e_tb, e_tru_n, e_tru_b, e_tru_i, e_tru_l, e_tru_sl, e_tru_t, e_tru_d, e_andT, e_orT, dNotT, e_andV, e_orV, dNotV, e_ifE, onB_t, onB_f, onB_dec, onB_ndec, onB_not, onI_i, dNil, dCons, dTup, dLst, dLstC, dCall, dFn, dFnK, e_abs, e_max, e_min, e_int_i, e_int_b, e_len_l, e_len_sl, e_len_t, e_len_d, e_len_s, e_len_c, e_sum_l, e_ix_l, e_ix_sl, e_ix_t, e_ix_c, e_ix_s, e_ix_di, e_ix_ds, dSl, e_sl_l, e_sl_sl, e_sl_t, e_sl_s, dNoPart, e_part, iSeq, iTp, e_rng1, iRng2, sFor, sWhile, dDNew, dIsN, dIsNotN, isNon, env0,
  List.map_cons, List.map_nil, List.length_cons, List.length_nil, List.replicate, List.cons_append, List.nil_append, List.append_nil, Nat.sub_self, Nat.reduceSub, Nat.reduceAdd, List.getElem?_cons_zero, List.getElem?_cons_succ, List.set_cons_zero, List.set_cons_succ, Option.some.injEq, Co.lst.injEq, exists_eq_left', exists_eq_left, exists_and_left, List.cons.injEq, decide_eq_true_eq, true_and, and_true, decide_true, decide_false, if_true, if_false, Bool.false_eq_true, Bool.not_true, Bool.not_false, listD, intsOf_map, put_same, put_put, at0, at1, at2, at3, at4, at5, ix20, ix21, sizeLine_eq, Nat.reduceLeDiff, Int.reduceLT, Int.reduceLE, Int.reduceNeg, gt_iff_lt, ge_iff_le, Int.one_mul, wipeD, TgN.vs, List.foldr_cons, List.foldr_nil, tgSet, fStr_i, fReprD_d, e_gtp, onCel_c, onDic_d, onKey_i, onKey_s, dIxC, dInC, dNotInC, dInCN, dUpd, dFrz, dFrzD, e_isB, cellD_dic, cellD_fdic, dBits, dDNewC, Co.dic.injEq, exists_eq', eq_self, and_self, e_enum, e_zip])
local macro_rules | `(tactic| walk_at "dl") => `(tactic| k_search put_same)
local macro_rules | `(tactic| walk_at "nd") => `(tactic| (simp only [List.map_cons, List.map_nil, List.cons_append, List.nil_append, List.append_nil]; decide +kernel))
local macro_rules | `(tactic| walk_at "asm") => `(tactic| repeat (refine And.intro (by assumption) ?_))
/-! ### what is odd -/
def kdB : Nat → D → Bool
  | _, .non => true
  | _, .bl _ => true
  | _, .int i => decide (-(2 ^ 200) < i) && decide (i < 2 ^ 200)
  | _, .str s => s.cps.toList.all fun c => Nat.blt c (16 ^ 8)
  | k + 1, .lst ds => ds.all (kdB k)
  | k + 1, .tup ds => ds.all (kdB k)
  | _ + 1, .dic ks => ks.isEmpty
  | _, _ => false
theorem kdB_of : ∀ {k : Nat} {d : D}, kdB k d = true → Kd k d := by
  intro k
  induction k with
  | zero =>
    intro d h
    cases d <;> first
      | exact True.intro
      | (cases h; done)
      | exact ⟨of_decide_eq_true (Bool.and_eq_true_iff.mp h).1, of_decide_eq_true (Bool.and_eq_true_iff.mp h).2⟩
      | exact fun c hc => Nat.le_of_ble_eq_true (List.all_eq_true.mp h c hc)
  | succ k ih =>
    intro d h
    cases d <;> first
      | exact True.intro
      | (cases h; done)
      | exact ⟨of_decide_eq_true (Bool.and_eq_true_iff.mp h).1, of_decide_eq_true (Bool.and_eq_true_iff.mp h).2⟩
      | exact fun c hc => Nat.le_of_ble_eq_true (List.all_eq_true.mp h c hc)
      | exact fun e he => ih (List.all_eq_true.mp h e he)
      | exact List.isEmpty_iff.mp h
def odB (d : D) : Bool := (kdB 6 d && Nat.ble (wt d) 20000) && itB d
structure Od (d : D) : Prop where
  a : AD 6 20000 d
  i : itB d = true
theorem odB_of {d : D} (h : odB d = true) : Od d := by
  obtain ⟨h1, h2⟩ := Bool.and_eq_true_iff.mp h
  obtain ⟨h3, h4⟩ := Bool.and_eq_true_iff.mp h1
  exact ⟨⟨kdB_of h3, Nat.le_of_ble_eq_true h4⟩, h2⟩
def sem_l_odd : Sem := fun ds cs R => ∃ j, ds = [.cel j] ∧ Pool cs j ∧ ∀ d cs', Od d → Pool cs' j → But j cs cs' → R d cs'
theorem len_l_odd : ∀ ds cs R, sem_l_odd ds cs R → ds.length = 1 := by rintro ds cs R ⟨_, rfl, _⟩; rfl
/-- _law_odd: slots 0=_law_pool_here 1=_law_some -/
def den_l_odd : DS :=
  (sSeq (sAsg (dLstC (dCons (dC .non) (dCons (dTup dNil) (dCons (dC (.str "find")) (dCons (dTup (dCons (dC (.str "Find")) (dCons (dTup dNil) (dCons (dTup (dCons (dC (.str "number")) (dCons (dC (.int 0)) (dCons (dC (.int 1)) dNil)))) dNil)))) (dCons (dTup (dCons (dC (.str "find")) (dCons (dLst dNil) (dCons (dTup (dCons (dC (.str "number")) (dCons (dC (.int 0)) (dCons (dC (.int 1)) dNil)))) dNil)))) (dCons (dTup (dCons (dC (.str "x")) (dCons (dTup dNil) (dCons (dTup (dCons (dC (.str "back")) dNil)) dNil)))) dNil))))))) 1)
    (sSeq (sAsg (dBin dAddCel (dVar 1) (dLst (dCons (dTup (dCons (dC (.str "x")) (dCons (dTup (dCons (dTup (dCons (dC (.str "number")) (dCons (dC (.int 2)) (dCons (dC (.int 1)) dNil)))) dNil)) (dCons (dTup (dCons (dC (.str "number")) (dCons (dC (.int 0)) (dCons (dC (.int 1)) dNil)))) dNil)))) (dCons (dTup (dCons (dC (.str "x")) (dCons (dTup (dCons (dTup (dCons (dC (.str "cells")) (dCons (dC (.int 9)) dNil))) dNil)) (dCons (dTup (dCons (dC (.str "number")) (dCons (dC (.int 0)) (dCons (dC (.int 1)) dNil)))) dNil)))) dNil)))) 1)
    (sSeq (sAsg (dBin dAddCel (dVar 1) (dLst (dCons (dTup (dCons (dC (.str "x")) (dCons (dTup (dCons (dTup (dCons (dC (.str "cells")) (dCons (dC (.int 0)) dNil))) dNil)) (dCons (dTup (dCons (dC (.str "number")) (dCons (dC (.int 0)) (dCons (dC (.int 1)) dNil)))) dNil)))) (dCons (dTup (dCons (dC (.str "x")) (dCons (dTup (dCons (dTup (dCons (dC (.str "room")) (dCons (dC (.str "none")) dNil))) dNil)) (dCons (dTup (dCons (dC (.str "number")) (dCons (dC (.int 0)) (dCons (dC (.int 1)) dNil)))) dNil)))) dNil)))) 1)
    (sSeq (sAsg (dBin dAddCel (dVar 1) (dLst (dCons (dTup (dCons (dC (.str "x")) (dCons (dTup dNil) (dCons (dTup (dCons (dC (.str "lent")) (dCons (dC (.str "rooms")) dNil))) dNil)))) (dCons (dTup (dCons (dC (.str "x")) (dCons (dTup (dCons (dTup (dCons (dC (.str "cells")) (dCons (dC (.int 1)) dNil))) dNil)) (dCons (dTup (dCons (dC (.str "lent")) (dCons (dC (.str "rooms")) dNil))) dNil)))) (dCons (dTup (dCons (dC (.str "x")) (dCons (dTup dNil) (dCons (dTup (dCons (dC (.str "number")) (dCons (dC (.int 0)) dNil))) dNil)))) dNil))))) 1)
    (sSeq (sAsg (dBin dAddCel (dVar 1) (dLst (dCons (dTup (dCons (dC (.str "x")) (dCons (dTup (dCons (dTup (dCons (dC (.str "room")) (dCons (dC (.str "rooms")) dNil))) (dCons (dTup (dCons (dC (.str "room")) (dCons (dC (.str "rooms")) dNil))) dNil))) (dCons (dTup (dCons (dC (.str "back")) dNil)) dNil)))) (dCons (dTup (dCons (dC (.str "x")) (dCons (dTup dNil) (dCons (dTup (dCons (dC (.str "number")) (dCons (dC (.bl true)) (dCons (dC (.int 1)) dNil)))) dNil)))) dNil)))) 1)
    (sSeq (sAsg (dBin dAddCel (dVar 1) (dLst (dCons (dTup (dCons (dC (.str "x")) (dCons (dTup (dCons (dTup (dCons (dC (.str "number")) (dCons (dC (.int 0)) (dCons (dC (.int 65536)) dNil)))) dNil)) (dCons (dTup (dCons (dC (.str "number")) (dCons (dC (.int 0)) (dCons (dC (.int 1)) dNil)))) dNil)))) (dCons (dTup (dCons (dC (.str "x")) (dCons (dTup (dCons (dTup (dCons (dC (.str "number")) (dCons (dC (.int 0)) (dCons (dC (.int 1)) dNil)))) dNil)) (dCons (dTup (dCons (dC (.str "lent")) (dCons (dC (.str "none")) dNil))) dNil)))) dNil)))) 1)
    (sSeq (sDrop (dApp (dVar 1) (dTup (dCons (dC (.str "x")) (dCons (dBin dRepT (dTup (dCons (dTup (dCons (dC (.str "number")) (dCons (dC (.int 0)) (dCons (dC (.int 1)) dNil)))) dNil)) (dC (.int 4))) (dCons (dTup (dCons (dC (.str "number")) (dCons (dC (.int 0)) (dCons (dC (.int 1)) dNil)))) dNil))))))
    (sSeq (sDrop (dApp (dVar 1) (dTup (dCons (dC (.str "x")) (dCons (dTup (dCons (dTup (dCons (dC (.str "number")) (dCons (dC (.int 0)) (dCons (dC (.int 1)) dNil)))) (dCons (dTup (dCons (dC (.str "room")) (dCons (dC (.str "rooms")) dNil))) dNil))) (dCons (dTup (dCons (dC (.str "back")) dNil)) dNil))))))
    (sSeq (sAsg (dBin dAddCel (dVar 1) (dLst (dCons (dTup (dCons (dC (.str "x")) (dCons (dTup (dCons (dTup (dCons (dC (.str "room")) (dCons (dC (.str "rooms")) dNil))) dNil)) (dCons (dTup (dCons (dC (.str "lent")) (dCons (dC (.str "rooms")) dNil))) dNil)))) (dCons (dTup (dCons (dC (.str "x")) (dCons (dTup (dCons (dTup (dCons (dC (.str "cells")) (dCons (dC (.bl true)) dNil))) dNil)) (dCons (dTup (dCons (dC (.str "number")) (dCons (dC (.int 0)) (dCons (dC (.int 1)) dNil)))) dNil)))) dNil)))) 1)
    (sSeq (sAsg (dBin dAddCel (dVar 1) (dLst (dCons (dTup (dCons (dC (.str "x")) (dCons (dC .non) (dCons (dTup (dCons (dC (.str "number")) (dCons (dC (.int 0)) (dCons (dC (.int 1)) dNil)))) dNil)))) (dCons (dTup (dCons (dC (.str "x")) (dCons (dTup dNil) (dCons (dTup dNil) dNil)))) (dCons (dTup (dCons (dC (.str "x")) (dCons (dTup dNil) (dCons (dC .non) dNil)))) (dCons (dTup (dCons (dC (.str "abcdefgh")) (dCons (dC (.int 1)) dNil))) (dCons (dTup (dCons (dC (.str "abcdefghi")) (dCons (dC (.int 1)) dNil))) dNil))))))) 1)
    (sSeq (sAsg (dBin dAddCel (dVar 1) (dLst (dCons (dTup (dCons (dC (.str "a1")) (dCons (dC (.int 1)) dNil))) (dCons (dTup (dCons (dC (.str "a b")) (dCons (dC (.int 1)) dNil))) (dCons (dTup (dCons (dC (.str "")) (dCons (dC (.int 1)) dNil))) (dCons (dTup (dCons (dC (.str "abcdefghi")) (dCons (dTup dNil) (dCons (dTup (dCons (dC (.str "number")) (dCons (dC (.int 0)) (dCons (dC (.int 1)) dNil)))) dNil)))) (dCons (dTup (dCons (dC (.str "a1")) (dCons (dTup dNil) (dCons (dTup (dCons (dC (.str "number")) (dCons (dC (.int 0)) (dCons (dC (.int 1)) dNil)))) dNil)))) dNil))))))) 1)
    (sSeq (sAsg (dBin dAddCel (dVar 1) (dLst (dCons (dTup (dCons (dC (.str "rooms")) (dCons (dC (.int 4)) dNil))) (dCons (dTup (dCons (dC (.str "bits")) (dCons (dC (.int 9)) dNil))) (dCons (dTup (dCons (dC (.str "bits")) (dCons (dC (.int 0)) dNil))) (dCons (dTup (dCons (dC (.str "bits")) (dCons (dC (.bl true)) dNil))) (dCons (dTup (dCons (dC (.str "find")) (dCons (dTup dNil) (dCons (dTup (dCons (dC (.str "number")) (dCons (dC (.int 0)) (dCons (dC (.int 1)) dNil)))) dNil)))) dNil))))))) 1)
    (sSeq (sAsg (dBin dAddCel (dVar 1) (dLst (dCons (dTup (dCons (dC (.str "rooms")) (dCons (dTup dNil) (dCons (dTup (dCons (dC (.str "number")) (dCons (dC (.int 0)) (dCons (dC (.int 1)) dNil)))) dNil)))) (dCons (dTup (dCons (dC (.str "abcdefgh")) (dCons (dTup dNil) (dCons (dTup (dCons (dC (.str "number")) (dCons (dC (.int 0)) (dCons (dC (.int 1)) dNil)))) dNil)))) (dCons (dTup (dCons (dC (.str "x")) (dCons (dTup dNil) (dCons (dTup (dCons (dC (.str "number")) (dCons (dC (.int 2)) (dCons (dC (.int 1)) dNil)))) dNil)))) dNil))))) 1)
    (sSeq (sAsg (dBin dAddCel (dVar 1) (dLst (dCons (dTup (dCons (dC (.str "x")) (dCons (dTup dNil) (dCons (dTup (dCons (dC (.str "number")) (dCons (dC (.int 0)) (dCons (dC (.int 65536)) dNil)))) dNil)))) (dCons (dTup (dCons (dC (.str "x")) (dCons (dTup dNil) (dCons (dTup (dCons (dC (.str "number")) (dCons (dNeg (dC (.int 1))) (dCons (dC (.int 1)) dNil)))) dNil)))) (dCons (dTup (dCons (dC (.str "x")) (dCons (dTup (dCons (dTup (dCons (dC (.str "number")) (dCons (dC (.bl true)) (dCons (dC (.int 1)) dNil)))) dNil)) (dCons (dTup dNil) dNil)))) dNil))))) 1)
    (sSeq (sAsg (dBin dAddCel (dVar 1) (dLst (dCons (dTup (dCons (dC (.str "x")) (dCons (dTup (dCons (dTup (dCons (dC (.str "room")) (dCons (dLst (dCons (dC (.str "rooms")) dNil)) dNil))) dNil)) (dCons (dTup (dCons (dC (.str "number")) (dCons (dC (.int 0)) (dCons (dC (.int 1)) dNil)))) dNil)))) (dCons (dTup (dCons (dC (.str "x")) (dCons (dTup (dCons (dTup (dCons (dC (.str "number")) (dCons (dC (.int 0)) (dCons (dC (.int 1)) dNil)))) dNil)) (dCons (dTup (dCons (dC (.str "lent")) (dCons dDNew dNil))) dNil)))) dNil)))) 1)
    (sSeq (sAsg (dBin dAddCel (dVar 1) (dLst (dCons (dTup (dCons (dLst (dCons (dC (.str "x")) dNil)) (dCons (dTup dNil) (dCons (dTup (dCons (dC (.str "number")) (dCons (dC (.int 0)) (dCons (dC (.int 1)) dNil)))) dNil)))) (dCons (dTup (dCons (dLst (dCons (dC (.str "rooms")) dNil)) (dCons (dC (.int 1)) dNil))) (dCons (dTup (dCons (dC (.str "x")) (dCons (dTup (dCons (dTup (dCons (dLst dNil) dNil)) dNil)) (dCons (dTup (dCons (dC (.str "number")) (dCons (dC (.int 0)) (dCons (dC (.int 1)) dNil)))) dNil)))) (dCons (dTup (dCons dDNew (dCons (dC (.int 1)) dNil))) dNil)))))) 1)
    (sSeq (sAsg (dBin dAddCel (dVar 1) (dLst (dCons (dTup (dCons (dC (.str "x")) (dCons (dTup (dCons (dTup (dCons (dLst (dCons (dC (.str "number")) dNil)) (dCons (dC (.int 0)) (dCons (dC (.int 1)) dNil)))) dNil)) (dCons (dTup (dCons (dC (.str "number")) (dCons (dC (.int 0)) (dCons (dC (.int 1)) dNil)))) dNil)))) (dCons (dTup (dCons (dC (.str "x")) (dCons (dTup dNil) (dCons (dTup (dCons (dLst (dCons (dC (.str "back")) dNil)) dNil)) dNil)))) dNil)))) 1)
    (sSeq (sAsg (dBin dAddCel (dVar 1) (dLst (dCons (dTup (dCons (dC (.str "x")) (dCons (dTup (dCons (dLst dNil) dNil)) (dCons (dTup (dCons (dC (.str "number")) (dCons (dC (.int 0)) (dCons (dC (.int 1)) dNil)))) dNil)))) (dCons (dTup (dCons (dC (.str "x")) (dCons (dTup (dCons (dTup (dCons (dC (.str "number")) (dCons (dC (.int 0)) (dCons (dC (.int 1)) (dCons (dC (.int 2)) dNil))))) dNil)) (dCons (dTup (dCons (dC (.str "number")) (dCons (dC (.int 0)) (dCons (dC (.int 1)) dNil)))) dNil)))) dNil)))) 1)
    (sSeq (sDrop (dApp (dVar 1) (dTup (dCons (dC (.str "join")) (dCons (dBin dRepT (dTup (dCons (dTup (dCons (dC (.str "room")) (dCons (dC (.str "rooms")) dNil))) dNil)) (dC (.int 2))) (dCons (dTup (dCons (dC (.str "number")) (dCons (dC (.int 0)) (dCons (dC (.int 1)) dNil)))) dNil))))))
    (sRet (dTidy (dBin dIxF (dVar 1) (dFn 2 sem_l_take (fun ds _ => ds) (dCons (dVar 0) (dCons (dCall fLen (dCons (dVar 1) dNil)) dNil)))))))))))))))))))))))))
theorem Pool.gr {cs cs' : Cells} {j : Nat} (h : Pool cs j) (g : Gr cs cs') : Pool cs' j := by
  obtain ⟨a, b, e, r⟩ := h
  exact ⟨a, b, g _ _ e, r⟩
/-- the pool alone is kept as it is now -/
theorem q_tidy {cs cs1 cs2 : Cells} {j : Nat} {P : Prop} (hp : Pool cs j) (hp2 : Pool cs2 j) (b : But j cs1 cs2) (g : ∀ i o, i ≠ j → cs i = some o → cs1 i = some o) (q : ∀ cs', (∀ k o, cs' k = some o → cs2 k = some o) → Pool cs' j → But j cs cs' → P) : P := by
  have h : ∀ i o, (fun i => if i = j then cs2 j else cs i) i = some o → cs2 i = some o := fun i o e => by
    by_cases z : i = j
    · have e' : (if i = j then cs2 j else cs i) = some o := e
      rw [if_pos z] at e'; rw [z]; exact e'
    · have e' : (if i = j then cs2 j else cs i) = some o := e
      rw [if_neg z] at e'
      rw [b i z]; exact g i o z e'
  refine q _ h ?_ fun i z => if_neg z
  obtain ⟨x, y, e, r⟩ := hp2
  exact ⟨x, y, (if_pos rfl).trans e, r⟩
/-- the list so far, in a cell of its own -/
def OS (cs0 : Cells) (j n : Nat) (c : Z) : Prop := ∃ k xs cs, c = ⟨[some (.cel j), some (.cel k)], cs⟩ ∧ cs0 k = none ∧ cs k = some (.lst xs) ∧ (0 < xs.length ∧ xs.length ≤ n) ∧ (∀ d ∈ xs, Od d) ∧ Gr cs0 cs
theorem ods_of {ys : List D} (h : ys.all odB = true) : ∀ d ∈ ys, Od d := fun d hd => odB_of (List.all_eq_true.mp h d hd)
section
variable {cs0 cs : Cells} {j n m : Nat} {da : DA} {de : DE} {ys : List D} {y : D} {t : DS} {DD : DEnds} {c : Z}
theorem od_new (hda : ∀ (c : Z) (Q : List D → Z → Prop), Q ys c → da c Q) (hy : ys.all odB = true) (hl : 0 < ys.length ∧ ys.length ≤ 10) (nx : ∀ c', OS cs0 j 10 c' → t DD c') : sSeq (sAsg (dLstC da) 1) t DD ⟨[some (.cel j), none], cs0⟩ := by
  refine hda _ _ ⟨by rw [sizeLine_eq]; omega, fun k hk => nx _ ⟨k, ys, _, rfl, hk, put_same, hl, ods_of hy, .put hk⟩⟩
theorem od_add (h : OS cs0 j n c) (hda : ∀ (c : Z) (Q : List D → Z → Prop), Q ys c → da c Q) (hy : ys.all odB = true) (hl : ys.length ≤ 10) (hn : n ≤ 1000) (nx : ∀ c', OS cs0 j (n + 10) c' → t DD c') : sSeq (sAsg (dBin dAddCel (dVar 1) (dLst da)) 1) t DD c := by
  obtain ⟨k, xs, cs, rfl, h0, h1, h2, h3, h4⟩ := h
  refine ⟨_, rfl, hda _ _ ⟨by rw [sizeLine_eq]; omega, xs, ys, h1, rfl, by rw [sizeLine_eq]; omega, fun k2 hk2 => nx _ ⟨k2, xs ++ ys, _, rfl, ?_, put_same, by rw [List.length_append]; omega, ap h3 (ods_of hy), h4.trans (.put hk2)⟩⟩⟩
  cases e : cs0 k2 with
  | none => rfl
  | some o => exact absurd ((h4 k2 o e).symm.trans (show cs k2 = none from hk2)) (by simp)
theorem od_app (h : OS cs0 j n c) (hde : ∀ (c : Z) (Q : D → Z → Prop), Q y c → de c Q) (hy : odB y = true) (hn : n ≤ 1000) (nx : ∀ c', OS cs0 j (n + 10) c' → t DD c') : sSeq (sDrop (dApp (dVar 1) de)) t DD c := by
  obtain ⟨k, xs, cs, rfl, h0, h1, h2, h3, h4⟩ := h
  refine ⟨_, rfl, ⟨_, h1⟩, hde _ _ ⟨xs, h1, by rw [sizeLine_eq]; omega, nx _ ⟨k, xs ++ [y], _, rfl, h0, put_same, by rw [List.length_append]; constructor <;> simp <;> omega, ap h3 (ac (odB_of hy) an), fun i o e => ?_⟩⟩⟩
  rw [put_ne (fun z => by rw [z, h0] at e; cases e)]
  exact h4 i o e
end
theorem okd_l_odd : ∀ ds cs R, sem_l_odd ds cs R → den_l_odd { nx := fun c => R .non c.cs, rt := R } ⟨env0 2 ds, cs⟩ := by
  rintro ds cs R ⟨j, rfl, hp, q⟩
  unfold den_l_odd
  refine od_new (fun c Q h => by first | exact h | (k_search at0; exact h) | (k_search at0; exact ⟨by simp, by decide, by decide, by decide, h⟩)) (by decide +kernel) (by decide) fun c0 h0 => ?_
  refine od_add h0 (fun c Q h => by first | exact h | (k_search at0; exact h) | (k_search at0; exact ⟨by simp, by decide, by decide, by decide, h⟩)) (by decide +kernel) (by decide) (by decide) fun c1 h1 => ?_
  refine od_add h1 (fun c Q h => by first | exact h | (k_search at0; exact h) | (k_search at0; exact ⟨by simp, by decide, by decide, by decide, h⟩)) (by decide +kernel) (by decide) (by decide) fun c2 h2 => ?_
  refine od_add h2 (fun c Q h => by first | exact h | (k_search at0; exact h) | (k_search at0; exact ⟨by simp, by decide, by decide, by decide, h⟩)) (by decide +kernel) (by decide) (by decide) fun c3 h3 => ?_
  refine od_add h3 (fun c Q h => by first | exact h | (k_search at0; exact h) | (k_search at0; exact ⟨by simp, by decide, by decide, by decide, h⟩)) (by decide +kernel) (by decide) (by decide) fun c4 h4 => ?_
  refine od_add h4 (fun c Q h => by first | exact h | (k_search at0; exact h) | (k_search at0; exact ⟨by simp, by decide, by decide, by decide, h⟩)) (by decide +kernel) (by decide) (by decide) fun c5 h5 => ?_
  refine od_app h5 (fun c Q h => by first | exact h | (k_search at0; exact h) | (k_search at0; exact ⟨by simp, by decide, by decide, by decide, h⟩)) (by decide +kernel) (by decide) fun c6 h6 => ?_
  refine od_app h6 (fun c Q h => by first | exact h | (k_search at0; exact h) | (k_search at0; exact ⟨by simp, by decide, by decide, by decide, h⟩)) (by decide +kernel) (by decide) fun c7 h7 => ?_
  refine od_add h7 (fun c Q h => by first | exact h | (k_search at0; exact h) | (k_search at0; exact ⟨by simp, by decide, by decide, by decide, h⟩)) (by decide +kernel) (by decide) (by decide) fun c8 h8 => ?_
  refine od_add h8 (fun c Q h => by first | exact h | (k_search at0; exact h) | (k_search at0; exact ⟨by simp, by decide, by decide, by decide, h⟩)) (by decide +kernel) (by decide) (by decide) fun c9 h9 => ?_
  refine od_add h9 (fun c Q h => by first | exact h | (k_search at0; exact h) | (k_search at0; exact ⟨by simp, by decide, by decide, by decide, h⟩)) (by decide +kernel) (by decide) (by decide) fun c10 h10 => ?_
  refine od_add h10 (fun c Q h => by first | exact h | (k_search at0; exact h) | (k_search at0; exact ⟨by simp, by decide, by decide, by decide, h⟩)) (by decide +kernel) (by decide) (by decide) fun c11 h11 => ?_
  refine od_add h11 (fun c Q h => by first | exact h | (k_search at0; exact h) | (k_search at0; exact ⟨by simp, by decide, by decide, by decide, h⟩)) (by decide +kernel) (by decide) (by decide) fun c12 h12 => ?_
  refine od_add h12 (fun c Q h => by first | exact h | (k_search at0; exact h) | (k_search at0; exact ⟨by simp, by decide, by decide, by decide, h⟩)) (by decide +kernel) (by decide) (by decide) fun c13 h13 => ?_
  refine od_add h13 (fun c Q h => by first | exact h | (k_search at0; exact h) | (k_search at0; exact ⟨by simp, by decide, by decide, by decide, h⟩)) (by decide +kernel) (by decide) (by decide) fun c14 h14 => ?_
  refine od_add h14 (fun c Q h => by first | exact h | (k_search at0; exact h) | (k_search at0; exact ⟨by simp, by decide, by decide, by decide, h⟩)) (by decide +kernel) (by decide) (by decide) fun c15 h15 => ?_
  refine od_add h15 (fun c Q h => by first | exact h | (k_search at0; exact h) | (k_search at0; exact ⟨by simp, by decide, by decide, by decide, h⟩)) (by decide +kernel) (by decide) (by decide) fun c16 h16 => ?_
  refine od_add h16 (fun c Q h => by first | exact h | (k_search at0; exact h) | (k_search at0; exact ⟨by simp, by decide, by decide, by decide, h⟩)) (by decide +kernel) (by decide) (by decide) fun c17 h17 => ?_
  refine od_app h17 (fun c Q h => by first | exact h | (k_search at0; exact h) | (k_search at0; exact ⟨by simp, by decide, by decide, by decide, h⟩)) (by decide +kernel) (by decide) fun c18 h18 => ?_
  obtain ⟨k, xs, cs1, rfl, e0, e1, e2, e3, e4⟩ := h18
  have hp1 : Pool cs1 j := hp.gr e4
  unfold dTidy
  k_search sem_l_take
  refine ⟨xs, e1, ⟨by omega, by omega⟩, hp1, fun r cs2 r0 r1 hp2 b2 => ⟨xs, (b2 k (hp.ne e0).symm).trans e1, ?_⟩⟩
  obtain ⟨d, hd, hod⟩ := at_all r0 r1 e3
  exact ⟨d, hd, q_tidy hp hp2 b2 (fun i o _ e => e4 i o e) fun cs' h1 h2 h3 => ⟨cs', h1, q d cs' hod h2 h3⟩⟩
local macro_rules | `(tactic| k_search $t) => `(tactic| simp only [$t:term, sNext, sSeq, sAsg, sRet, sRetN, sDrop, e_if, sBreak, sCont, sAsgG, e_par, e_par3, gNm, e_set, e_setC, gList, dVar, dC, dBin, e_int2, e_add_ii, e_add_ib, e_add_ss, e_add_ll, e_add_tt, dSub, dMul, dDiv, dMod, dPow, dShl, dShr, dAnd, dOr, dXor, e_neg, dLt, dLe, dGt, dGe, e_eq_ii, e_eq_bb, e_eq_ss, e_ne_ii, e_ne_bb, e_ne_ss, e_eq_l, e_eq_sl, e_eq_t, e_eq_n, e_ne_l, e_ne_sl, e_ne_t, e_ne_n, e_chain, dTru, e_tb, e_tru_n, e_tru_b, e_tru_i, e_tru_l, e_tru_sl, e_tru_t, e_tru_d, e_andT, e_orT, dNotT, e_andV, e_orV, dNotV, e_ifE, onB_t, onB_f, onB_dec, onB_ndec, onB_not, onI_i, dNil, dCons, dTup, dLst, dLstC, dCall, dFn, dFnK, e_abs, e_max, e_min, e_int_i, e_int_b, e_len_l, e_len_sl, e_len_t, e_len_d, e_len_s, e_len_c, e_sum_l, e_ix_l, e_ix_sl, e_ix_t, e_ix_c, e_ix_s, e_ix_di, e_ix_ds, dSl, e_sl_l, e_sl_sl, e_sl_t, e_sl_s, dNoPart, e_part, iSeq, iTp, e_rng1, iRng2, sFor, sWhile, dDNew, dIsN, dIsNotN, isNon, env0,
  List.map_cons, List.map_nil, List.length_cons, List.length_nil, List.replicate, List.cons_append, List.nil_append, List.append_nil, Nat.sub_self, Nat.reduceSub, Nat.reduceAdd, List.getElem?_cons_zero, List.getElem?_cons_succ, List.set_cons_zero, List.set_cons_succ, Option.some.injEq, Co.lst.injEq, exists_eq_left', exists_eq_left, exists_and_left, List.cons.injEq, decide_eq_true_eq, true_and, and_true, decide_true, decide_false, if_true, if_false, Bool.false_eq_true, Bool.not_true, Bool.not_false, listD, intsOf_map, put_same, put_put, at0, at1, at2, at3, at4, at5, ix20, ix21, sizeLine_eq, Nat.reduceLeDiff, Int.reduceLT, Int.reduceLE, Int.reduceNeg, gt_iff_lt, ge_iff_le, Int.one_mul, wipeD, TgN.vs, List.foldr_cons, List.foldr_nil, tgSet, fStr_i, fReprD_d, e_gtp, onCel_c, onDic_d, onKey_i, onKey_s, dIxC, dInC, dNotInC, dInCN, dUpd, dFrz, dFrzD, e_isB, cellD_dic, cellD_fdic, dBits, dDNewC, Co.dic.injEq, exists_eq', eq_self, and_self, e_enum, e_zip])
local macro_rules | `(tactic| walk_at "dl") => `(tactic| k_search put_same)
local macro_rules | `(tactic| walk_at "nd") => `(tactic| (simp only [List.map_cons, List.map_nil, List.cons_append, List.nil_append, List.append_nil]; decide +kernel))
local macro_rules | `(tactic| walk_at "asm") => `(tactic| repeat (refine And.intro (by assumption) ?_))
/-! ### bent -/
structure It (e : D) : Prop where
  a : AD 6 190000 e
  i : itB e = true
theorem Od.it {d : D} (h : Od d) : It d := ⟨h.a.mono (by decide) (by decide), h.i⟩
theorem It.gd {d : D} (h : It d) : Gd d := ⟨h.a.mono (by decide) (by decide), h.i⟩
structure GL (l : List D) : Prop where
  n : l.length ≤ 20
  e : ∀ x ∈ l, It x
theorem GL.lg {l : List D} (h : GL l) : Lg (.lst l) := ⟨rfl, fun _ e => (by cases e), fun l' e => by cases e; exact ⟨Nat.le_trans h.n (by decide), fun x hx => (h.e x hx).gd⟩⟩
theorem GL.tup {l : List D} (_ : GL l) : Lg (.tup l) := ⟨rfl, fun _ e => (by cases e), fun l' e => by cases e⟩
theorem GL.nil : GL [] := ⟨Nat.zero_le _, an⟩
theorem GL.ad {l : List D} (h : GL l) : AD 7 3900000 (.lst l) := ad_lst (fun e he => (h.e e he).a) h.n (by decide)
theorem GL.adt {l : List D} (h : GL l) : AD 7 3900000 (.tup l) := ad_tup (fun e he => (h.e e he).a) h.n (by decide)
structure Bt (d : D) : Prop where
  t : Tg d
  a : AD 9 16000000 d
theorem bt_pair {s c : D} (hs : Lg s) (hc : Lg c) (as : AD 7 3900000 s) (ac' : AD 7 3900000 c) : Bt (.tup [s, c]) :=
  ⟨⟨rfl, fun s' c' e => by cases e; exact ⟨hs, hc⟩⟩, (ad_tup (m := 3) (w' := 15000000) (ac as (ac ac' an)) (ble rfl) (by decide)).mono (by decide) (by decide)⟩
theorem GL.cons {x : D} {l : List D} (h : It x) (g : GL l) (hl : l.length ≤ 19) : GL (x :: l) := ⟨by rw [List.length_cons]; omega, ac h g.e⟩
theorem GL.take {l : List D} (g : GL l) (n : Nat) : GL (l.take n) := ⟨by rw [List.length_take]; have := g.n; omega, fun x hx => g.e x (List.mem_of_mem_take hx)⟩
theorem GL.drop {l : List D} (g : GL l) (n : Nat) : GL (l.drop n) := ⟨by rw [List.length_drop]; have := g.n; omega, fun x hx => g.e x (List.mem_of_mem_drop hx)⟩
/-- the drawn contract's own -/
theorem tx_ad {s : Str} (h : TxOk s) : AD 0 400 (.str s) := ⟨h.cps, by have := h.len; show 10 * s.length + 2 ≤ 400; omega⟩
theorem pt_ad {p : Pt} (h : p.ok) : AD 1 3000 p.d := by
  cases p with
  | num a b => exact t1 (ac ad_str (ac (ad_int h.1) (ac (ad_int h.2) an))) (ble rfl)
  | cells n => exact t1 (ac ad_str (ac (ad_int h) an)) (ble rfl)
  | room s => exact t1 (ac ad_str (ac (tx_ad h) an)) (ble rfl)
  | lent s => exact t1 (ac ad_str (ac (tx_ad h) an)) (ble rfl)
  | back => exact t1 (ac ad_str an) (ble rfl)
theorem pt_tk (p : Pt) : tkB p.d = true := by cases p <;> (show plB (.str _) = true; decide +kernel)
theorem cl_it {c : Cl} (h : c.ok) : It c.d := by
  refine ⟨(t3 (ac (m02 (tx_ad h.nm)) (ac (t2 (ds := c.tk.map Pt.d) (fun e he => ?_) (by rw [List.length_map]; exact h.few)) (ac (m12 (pt_ad h.gv)) an))) (ble rfl)).mono (by decide) (by decide), ?_⟩
  · obtain ⟨p, hp, rfl⟩ := List.mem_map.mp he
    exact pt_ad (h.tk p hp)
  · show ((c.tk.map Pt.d).all tkB && gvB c.gv.d) = true
    rw [List.all_map, show c.tk.all (tkB ∘ Pt.d) = true from List.all_eq_true.mpr fun p _ => pt_tk p, Bool.true_and]
    show (tkB c.gv.d && (hdS c.gv.d || plB c.gv.d)) = true
    rw [pt_tk, show hdS c.gv.d = true by cases c.gv <;> rfl]; rfl
theorem sh_it {p : Str × Int} (h : TxOk p.1 ∧ NmOk p.2) : It (shD p) := ⟨(t1 (ac (tx_ad h.1) (ac (ad_int h.2) an)) (ble rfl)).mono (by decide) (by decide), rfl⟩
theorem cls_gl {one : Ct} (h : one.ok) : GL (one.cl.map Cl.d) := ⟨by rw [List.length_map]; exact Nat.le_trans h.cln (by decide), fun x hx => by obtain ⟨c, hc, rfl⟩ := List.mem_map.mp hx; exact cl_it (h.cl c hc)⟩
theorem shs_gl {one : Ct} (h : one.ok) : GL (one.sh.map shD) := ⟨by rw [List.length_map]; exact Nat.le_trans h.shn (by decide), fun x hx => by obtain ⟨c, hc, rfl⟩ := List.mem_map.mp hx; exact sh_it (h.sh c hc)⟩
theorem ct_bt {one : Ct} (h : one.ok) : Bt one.d := bt_pair (shs_gl h).lg (cls_gl h).lg (shs_gl h).ad (cls_gl h).ad
/-! #### the list of them, in a cell -/
def BS (P : D → Prop) (cs0 : Cells) (E : Nat → List (Option D)) (n : Nat) (c : Z) : Prop := ∃ k xs cs, c = ⟨E k, cs⟩ ∧ cs0 k = none ∧ cs k = some (.lst xs) ∧ xs.length = n ∧ (∀ d ∈ xs, P d) ∧ Gr cs0 cs
section
variable {P : D → Prop} {cs0 cs : Cells} {E E' : Nat → List (Option D)} {env : List (Option D)} {i n : Nat} {da : DA} {de : DE} {ys : List D} {y : D} {t : DS} {DD : DEnds} {c : Z}
theorem bs_new (hda : ∀ (cs : Cells) (Q : List D → Z → Prop), Q ys ⟨env, cs⟩ → da ⟨env, cs⟩ Q) (hE : ∀ k, env.set i (some (.cel k)) = E k) (hy : ∀ d ∈ ys, P d) (hl : ys.length ≤ 100) (nx : ∀ c', BS P cs0 E ys.length c' → t DD c') : sSeq (sAsg (dLstC da) i) t DD ⟨env, cs0⟩ := by
  refine hda _ _ ⟨by rw [sizeLine_eq]; omega, fun k hk => nx _ ⟨k, ys, put cs0 k (.lst ys), ?_, hk, put_same, rfl, hy, .put hk⟩⟩
  show (⟨env.set i (some (.cel k)), _⟩ : Z) = _
  rw [hE]
theorem bs_add (h : BS P cs0 E n c) (hE : ∀ k, (E k)[i]? = some (some (.cel k))) (hS : ∀ k k2, (E k).set i (some (.cel k2)) = E k2) (hda : ∀ (k : Nat) (cs : Cells) (Q : List D → Z → Prop), Q ys ⟨E k, cs⟩ → da ⟨E k, cs⟩ Q) (hy : ∀ d ∈ ys, P d) (hl : ys.length ≤ 100) (hn : n ≤ 1000) (nx : ∀ c', BS P cs0 E (n + ys.length) c' → t DD c') :
    sSeq (sAsg (dBin dAddCel (dVar i) (dLst da)) i) t DD c := by
  obtain ⟨k, xs, cs, rfl, h0, h1, h2, h3, h4⟩ := h
  refine ⟨_, hE k, hda k _ _ ⟨by rw [sizeLine_eq]; omega, xs, ys, h1, rfl, by rw [sizeLine_eq]; omega, fun k2 hk2 => nx _ ⟨k2, xs ++ ys, put cs k2 (.lst (xs ++ ys)), ?_, ?_, put_same, by rw [List.length_append, h2], ap h3 hy, h4.trans (.put hk2)⟩⟩⟩
  · show (⟨(E k).set i (some (.cel k2)), _⟩ : Z) = _
    rw [hS]
  · cases e : cs0 k2 with
    | none => rfl
    | some o => exact absurd ((h4 k2 o e).symm.trans (show cs k2 = none from hk2)) (by simp)
theorem bs_app (h : BS P cs0 E n c) (hE : ∀ k, (E k)[i]? = some (some (.cel k))) (hde : ∀ (k : Nat) (cs : Cells) (Q : D → Z → Prop), Q y ⟨E k, cs⟩ → de ⟨E k, cs⟩ Q) (hy : P y) (hn : n ≤ 1000) (nx : ∀ c', BS P cs0 E (n + 1) c' → t DD c') : sSeq (sDrop (dApp (dVar i) de)) t DD c := by
  obtain ⟨k, xs, cs, rfl, h0, h1, h2, h3, h4⟩ := h
  refine ⟨_, hE k, ⟨_, h1⟩, hde k _ _ ⟨xs, h1, by rw [sizeLine_eq]; omega, nx _ ⟨k, xs ++ [y], _, rfl, h0, put_same, by rw [List.length_append, h2]; rfl, ap h3 (ac hy an), fun i o e => ?_⟩⟩⟩
  rw [put_ne (fun z => by rw [z, h0] at e; cases e)]
  exact h4 i o e
/-- a name is set to a value that the state tells -/
theorem bs_set {m : Nat} (h : BS P cs0 E n c) (hde : ∀ (k : Nat) (cs : Cells) (Q : D → Z → Prop), Q y ⟨E k, cs⟩ → de ⟨E k, cs⟩ Q) (hE : ∀ k, (E k).set m (some y) = E' k) (nx : ∀ c', BS P cs0 E' n c' → t DD c') : sSeq (sAsg de m) t DD c := by
  obtain ⟨k, xs, cs, rfl, h⟩ := h
  refine hde k _ _ (nx _ ⟨k, xs, cs, ?_, h⟩)
  show (⟨(E k).set m (some y), cs⟩ : Z) = _
  rw [hE]
end
theorem seq_gen {u v : DS} {DD : DEnds} {c : Z} (h : ∀ DD', DD' = { DD with nx := v DD } → u DD' c) : sSeq u v DD c := h _ rfl
theorem glist2 {a b : Nat} {x y : D} {c : Z} {R : Z → Prop} (h : R ⟨(c.env.set a (some x)).set b (some y), c.cs⟩) : gList [gNm a, gNm b] [x, y] c R := h
def sem_l_bent : Sem := fun ds cs R => ∃ (j : Nat) (one : Ct), ds = [.cel j, one.d] ∧ one.ok ∧ Base one ∧ Pool cs j ∧ ∀ d cs', Bt d → Pool cs' j → But j cs cs' → R d cs'
theorem len_l_bent : ∀ ds cs R, sem_l_bent ds cs R → ds.length = 2 := by rintro ds cs R ⟨_, _, rfl, _⟩; rfl
def ex_l_bent_1 : DE :=
  (dLc (iRng1 (dCons (dC (.int 5)) dNil)) (.one 9) dYes (dTup (dCons (dBin dIxF (dC (.str "abcde")) (dVar 9)) (dCons (dBin dAdd (dC (.int 1)) (dVar 9)) dNil))))
def ex_l_bent_2 : DE :=
  (dLc (iRng1 (dCons (dC (.int 13)) dNil)) (.one 9) dYes (dTup (dCons (dBin dIxF (dC (.str "abcdefghijklm")) (dVar 9)) (dCons (dTup dNil) (dCons (dTup (dCons (dC (.str "number")) (dCons (dVar 9) (dCons (dVar 9) dNil)))) dNil)))))
/-- _law_bent: slots 0=_law_pool_here 1=_law_contract_here 2=_law_shelves 3=_law_calls 4=_law_at 5=_law_spot 6=_law_odd_here 7=_law_some 8=_law_more 9=_law_k 10=_law_many -/
def den_l_bent : DS :=
  (sSeq (sAsgG (dVar 1) (gTp ((gNm 2) :: ((gNm 3) :: []))))
    (sSeq (sPar 4 5 (dCons (dFn 2 sem_l_take (fun ds _ => ds) (dCons (dVar 0) (dCons (dCall fLen (dCons (dVar 2) dNil)) dNil))) (dCons (dFn 2 sem_l_take (fun ds _ => ds) (dCons (dVar 0) (dCons (dCall fLen (dCons (dVar 3) dNil)) dNil))) dNil)))
    (sSeq (sAsg (dFn 1 sem_l_odd (fun ds _ => ds) (dCons (dVar 0) dNil)) 6)
    (sSeq (sAsg (dLstC (dCons (dTup (dCons (dVar 2) (dCons (dBin dAdd (dBin dAdd (dSl (dVar 3) dNoPart (dPart (dVar 5))) (dLst (dCons (dVar 6) dNil))) (dSl (dVar 3) (dPart (dBin dAdd (dVar 5) (dC (.int 1)))) dNoPart)) dNil))) (dCons (dTup (dCons (dVar 2) (dCons (dBin dAdd (dVar 3) (dLst (dCons (dVar 6) dNil))) dNil))) dNil))) 7)
    (sSeq (sAsg (dBin dAddCel (dVar 7) (dLst (dCons (dTup (dCons (dVar 2) (dCons (dBin dAdd (dVar 3) (dSl (dVar 3) dNoPart (dPart (dC (.int 1))))) dNil))) (dCons (dTup (dCons (dBin dAdd (dBin dAdd (dSl (dVar 2) dNoPart (dPart (dVar 4))) (dLst (dCons (dVar 6) dNil))) (dSl (dVar 2) (dPart (dBin dAdd (dVar 4) (dC (.int 1)))) dNoPart)) (dCons (dVar 3) dNil))) dNil)))) 7)
    (sSeq (sAsg (dBin dAddCel (dVar 7) (dLst (dCons (dTup (dCons (dBin dAdd (dVar 2) (dSl (dVar 2) dNoPart (dPart (dC (.int 1))))) (dCons (dVar 3) dNil))) (dCons (dTup (dCons (dCall fTupOf (dCons (dVar 2) dNil)) (dCons (dVar 3) dNil))) dNil)))) 7)
    (sSeq (sAsg (dBin dAddCel (dVar 7) (dLst (dCons (dTup (dCons (dVar 2) (dCons (dCall fTupOf (dCons (dVar 3) dNil)) dNil))) (dCons (dLst (dCons (dVar 2) (dCons (dVar 3) dNil))) (dCons (dC .non) (dCons (dTup (dCons (dVar 2) dNil)) (dCons (dTup (dCons (dVar 2) (dCons (dVar 3) (dCons (dLst dNil) dNil)))) (dCons dDNew dNil)))))))) 7)
    (sSeq (sDrop (dApp (dVar 7) (dTup (dCons (dVar 3) (dCons (dVar 2) dNil)))))
    (sSeq (sAsg ex_l_bent_1 8)
    (sSeq (sAsg (dBin dAddCel (dVar 7) (dLst (dCons (dTup (dCons (dVar 8) (dCons (dLst dNil) dNil))) (dCons (dTup (dCons (dSl (dVar 8) dNoPart (dPart (dC (.int 4)))) (dCons (dLst dNil) dNil))) (dCons (dTup (dCons (dLst dNil) (dCons (dVar 3) dNil))) (dCons (dTup (dCons (dVar 2) (dCons (dLst dNil) dNil))) dNil)))))) 7)
    (sSeq (sAsg ex_l_bent_2 10)
    (sRet (dTidy (dBin dIxF (dBin dAdd (dFrz (dVar 7)) (dLst (dCons (dTup (dCons (dVar 2) (dCons (dVar 10) dNil))) (dCons (dTup (dCons (dVar 2) (dCons (dSl (dVar 10) dNoPart (dPart (dC (.int 12)))) dNil))) dNil)))) (dFn 2 sem_l_take (fun ds _ => ds) (dCons (dVar 0) (dCons (dC (.int 19)) dNil)))))))))))))))))
theorem bt_of {d : D} (hk : kindly d) (hl : ∀ s c, d ≠ .tup [s, c]) (ha : AD 9 16000000 d) : Bt d := ⟨⟨hk, fun s c e => absurd e (hl s c)⟩, ha⟩
def f5 (w : Str) : D → D | .int i => .tup [.str ⟨#[w.cps.toList.getD i.toNat 0]⟩, .int (1 + i)] | d => d
def f13 (w : Str) : D → D | .int i => .tup [.str ⟨#[w.cps.toList.getD i.toNat 0]⟩, .tup [], .tup [.str "number", .int i, .int i]] | d => d
def M5 : List D := ((rangeD 0 5).filter fun _ => true).map (f5 "abcde")
def M13 : List D := ((rangeD 0 13).filter fun _ => true).map (f13 "abcdefghijklm")
theorem gl_of {l : List D} (h : (Nat.ble l.length 20 && l.all odB) = true) : GL l := by
  obtain ⟨h1, h2⟩ := Bool.and_eq_true_iff.mp h
  exact ⟨Nat.le_of_ble_eq_true h1, fun x hx => (odB_of (List.all_eq_true.mp h2 x hx)).it⟩
theorem gM5 : GL M5 := gl_of (by decide +kernel)
theorem gM13 : GL M13 := gl_of (by decide +kernel)
theorem okd_l_bent : ∀ ds cs R, sem_l_bent ds cs R → den_l_bent { nx := fun c => R .non c.cs, rt := R } ⟨env0 11 ds, cs⟩ := by
  rintro ds cs R ⟨j, one, rfl, ho, hb, hp, q⟩
  unfold den_l_bent gTp
  have gS := shs_gl ho
  have gC := cls_gl ho
  unfold Ct.d
  generalize hSx : one.sh.map shD = S at gS ⊢
  generalize hCx : one.cl.map Cl.d = C at gC ⊢
  have lS : 0 < S.length ∧ S.length ≤ 20 := ⟨by rw [← hSx, List.length_map]; obtain ⟨n, t, e, _⟩ := hb.sh; rw [e]; exact Nat.succ_pos _, gS.n⟩
  have lC : 0 < C.length ∧ C.length ≤ 20 := ⟨by rw [← hCx, List.length_map]; exact List.length_pos_iff.mpr hb.cl, gC.n⟩
  have cl_few : C.length ≤ 5 := by rw [← hCx, List.length_map]; exact hb.few
  have sh_few : S.length ≤ 3 := by rw [← hSx, List.length_map]; exact ho.shn
  refine ⟨_, rfl, _, rfl, rfl, glist2 ?_⟩
  dsimp only
  refine seq_gen fun D1 h1 => ?_
  k_search sem_l_take
  refine ⟨⟨by omega, by omega⟩, hp, fun at_ cs1 a0 a1 hp1 b1 => ⟨⟨by omega, by omega⟩, hp1, fun sp cs2 s0 s1 hp2 b2 => ?_⟩⟩
  rw [h1]
  dsimp only
  refine seq_gen fun D2 h2 => ?_
  k_search sem_l_odd
  refine ⟨j, rfl, hp2, fun o cs3 hod hp3 b3 => ?_⟩
  rw [h2]
  have io := hod.it
  obtain ⟨a, rfl⟩ : ∃ a : Nat, at_ = a := ⟨at_.toNat, by omega⟩
  obtain ⟨p, rfl⟩ : ∃ p : Nat, sp = p := ⟨sp.toNat, by omega⟩
  have gO : GL [o] := .cons io .nil (by decide)
  have e1 : ∀ n : Nat, (n : Int) + 1 = ((n + 1 : Nat) : Int) := fun n => rfl
  dsimp only
  have aO : AD 7 3900000 (.lst [o]) := gO.ad
  have gC1 : GL (C.take p ++ [o] ++ C.drop (p + 1)) := ⟨by simp only [List.length_append, List.length_take, List.length_drop, List.length_singleton]; omega, ap (ap (gC.take p).e gO.e) (gC.drop (p + 1)).e⟩
  have gC2 : GL (C ++ [o]) := ⟨by rw [List.length_append, List.length_singleton]; have := cl_few; omega, ap gC.e gO.e⟩
  have gC3 : GL (C ++ C.take 1) := ⟨by rw [List.length_append, List.length_take]; have := cl_few; omega, ap gC.e (gC.take 1).e⟩
  have gS1 : GL (S.take a ++ [o] ++ S.drop (a + 1)) := ⟨by simp only [List.length_append, List.length_take, List.length_drop, List.length_singleton]; omega, ap (ap (gS.take a).e gO.e) (gS.drop (a + 1)).e⟩
  have gS2 : GL (S ++ S.take 1) := ⟨by rw [List.length_append, List.length_take]; have := sh_few; omega, ap gS.e (gS.take 1).e⟩
  refine bs_new (P := Bt) (ys := [.tup [.lst S, .lst (C.take p ++ [o] ++ C.drop (p + 1))], .tup [.lst S, .lst (C ++ [o])]]) (E := fun k : Nat => [some (D.cel j), some (D.tup [D.lst S, D.lst C]), some (.lst S), some (.lst C), some (.int (a : Int)), some (.int (p : Int)), some o, some (.cel k), none, none, none])
    (fun cs Q h => ?_) (fun k => rfl) (ac (bt_pair gS.lg gC1.lg gS.ad gC1.ad) (ac (bt_pair gS.lg gC2.lg gS.ad gC2.ad) an)) (ble rfl) fun c0 h0 => ?_
  · k_search at0
    rw [e1, cut_to, cut_from]
    exact ⟨by rw [List.length_take]; omega, by rw [List.length_append, List.length_take, List.length_drop, List.length_singleton]; omega, by omega, h⟩
  refine bs_add (P := Bt) (i := 7) h0 (ys := [.tup [.lst S, .lst (C ++ C.take 1)], .tup [.lst (S.take a ++ [o] ++ S.drop (a + 1)), .lst C]]) (fun k => rfl) (fun k k2 => rfl)
    (fun k cs Q h => ?_) (ac (bt_pair gS.lg gC3.lg gS.ad gC3.ad) (ac (bt_pair gS1.lg gC.lg gS1.ad gC.ad) an)) (ble rfl) (ble rfl) fun c1 h1 => ?_
  · k_search at0
    rw [e1, cut_to, cut_from, show (some (1 : Int)) = some ((1 : Nat) : Int) from rfl, cut_to]
    exact ⟨by rw [List.length_take]; omega, by rw [List.length_take]; omega, by rw [List.length_append, List.length_take, List.length_drop, List.length_singleton]; omega, h⟩
  refine bs_add (P := Bt) (i := 7) h1 (ys := [.tup [.lst (S ++ S.take 1), .lst C], .tup [.tup S, .lst C]]) (fun k => rfl) (fun k k2 => rfl)
    (fun k cs Q h => ?_) (ac (bt_pair gS2.lg gC.lg gS2.ad gC.ad) (ac (bt_pair gS.tup gC.lg gS.adt gC.ad) an)) (ble rfl) (ble rfl) fun c2 h2 => ?_
  · k_search fTupOf
    rw [show (some (1 : Int)) = some ((1 : Nat) : Int) from rfl, cut_to]
    exact ⟨by rw [List.length_take]; omega, h⟩
  refine bs_add (P := Bt) (i := 7) h2 (ys := [.tup [.lst S, .tup C], .lst [.lst S, .lst C], .non, .tup [.lst S], .tup [.lst S, .lst C, .lst []], .dic []]) (fun k => rfl) (fun k k2 => rfl)
    (fun k cs Q h => ?_) (ac (bt_pair gS.lg gC.tup gS.ad gC.adt) (ac ?_ (ac ?_ (ac ?_ (ac ?_ (ac ?_ an)))))) (ble rfl) (ble rfl) fun c3 h3 => ?_
  · k_search fTupOf
    exact h
  · exact bt_of rfl (fun _ _ e => by cases e) ((ad_lst (m := 3) (w' := 15000000) (ac gS.ad (ac gC.ad an)) (ble rfl) (by decide)).mono (by decide) (by decide))
  · exact bt_of rfl (fun _ _ e => by cases e) (ad_non.mono (by decide) (by decide))
  · exact bt_of rfl (fun _ _ e => by cases e) ((ad_tup (m := 3) (w' := 15000000) (ac gS.ad an) (ble rfl) (by decide)).mono (by decide) (by decide))
  · exact bt_of rfl (fun _ _ e => by cases e) ((ad_tup (m := 3) (w' := 15000000) (ac gS.ad (ac gC.ad (ac GL.nil.ad an))) (ble rfl) (by decide)).mono (by decide) (by decide))
  · exact bt_of rfl (fun _ _ e => by cases e) (ad_dic.mono (by decide) (by decide))
  refine bs_app (P := Bt) (i := 7) h3 (y := .tup [.lst C, .lst S]) (fun k => rfl) (fun k cs Q h => ?_) (bt_pair gC.lg gS.lg gC.ad gS.ad) (ble rfl) fun c4 h4 => ?_
  · k_search at0
    exact h
  refine bs_set h4 (y := .lst M5) (E' := fun k : Nat => [some (D.cel j), some (D.tup [D.lst S, D.lst C]), some (.lst S), some (.lst C), some (.int (a : Int)), some (.int (p : Int)), some o, some (.cel k), some (.lst M5), none, none]) (fun k cs Q h => ?_) (fun k => rfl) fun c5 h5 => ?_
  · unfold ex_l_bent_1 dLc
    k_search at0
    refine ⟨by decide, by decide, fun k1 hk1 => lc_plain (b := fun _ => true) (f := f5 "abcde") hk1 (fun d hd => ?_) (by rw [sizeLine_eq]; decide) h⟩
    have hd' : d ∈ [D.int 0, .int 1, .int 2, .int 3, .int 4] := hd
    simp only [List.mem_cons, List.not_mem_nil, or_false] at hd'
    rcases hd' with rfl | rfl | rfl | rfl | rfl <;> exact ⟨_, rfl, fun cs Q h => h, fun _ cs Q h => ⟨_, rfl, _, by rw [sizeLine_eq]; decide +kernel, rfl, _, rfl, by rw [sizeLine_eq]; decide, h⟩⟩
  refine bs_add (P := Bt) (i := 7) h5 (ys := [.tup [.lst M5, .lst []], .tup [.lst (M5.take 4), .lst []], .tup [.lst [], .lst C], .tup [.lst S, .lst []]]) (fun k => rfl) (fun k k2 => rfl)
    (fun k cs Q h => ?_) (ac (bt_pair gM5.lg GL.nil.lg gM5.ad GL.nil.ad) (ac (bt_pair (gM5.take 4).lg GL.nil.lg (gM5.take 4).ad GL.nil.ad) (ac (bt_pair GL.nil.lg gC.lg GL.nil.ad gC.ad) (ac (bt_pair gS.lg GL.nil.lg gS.ad GL.nil.ad) an)))) (ble rfl) (ble rfl) fun c6 h6 => ?_
  · k_search at0
    exact h
  refine bs_set h6 (y := .lst M13) (E' := fun k : Nat => [some (D.cel j), some (D.tup [D.lst S, D.lst C]), some (.lst S), some (.lst C), some (.int (a : Int)), some (.int (p : Int)), some o, some (.cel k), some (.lst M5), none, some (.lst M13)]) (fun k cs Q h => ?_) (fun k => rfl) fun c7 h7 => ?_
  · unfold ex_l_bent_2 dLc
    k_search at0
    refine ⟨by decide, by decide, fun k1 hk1 => lc_plain (b := fun _ => true) (f := f13 "abcdefghijklm") hk1 (fun d hd => ?_) (by rw [sizeLine_eq]; decide) h⟩
    have hd' : d ∈ [D.int 0, .int 1, .int 2, .int 3, .int 4, .int 5, .int 6, .int 7, .int 8, .int 9, .int 10, .int 11, .int 12] := hd
    simp only [List.mem_cons, List.not_mem_nil, or_false] at hd'
    rcases hd' with rfl | rfl | rfl | rfl | rfl | rfl | rfl | rfl | rfl | rfl | rfl | rfl | rfl <;> exact ⟨_, rfl, fun cs Q h => h, fun _ cs Q h => ⟨_, rfl, _, by rw [sizeLine_eq]; decide +kernel, rfl, by rw [sizeLine_eq]; decide, _, rfl, _, rfl, by rw [sizeLine_eq]; decide, by rw [sizeLine_eq]; decide, h⟩⟩
  obtain ⟨k, xs, cs4, rfl, f0, f1, f2, f3, f4⟩ := h7
  unfold dTidy
  k_search sem_l_take
  have hkj : k ≠ j := fun e => by
    obtain ⟨x, y, e', _⟩ := hp3
    rw [e, e'] at f0; cases f0
  refine ⟨xs, f1, by rw [f2]; show 17 ≤ 16777214; decide, by decide, (hp3.gr f4).other (del_ne hkj.symm), fun r cs5 r0 r1 hp5 b5 => ?_⟩
  rw [show (some (12 : Int)) = some ((12 : Nat) : Int) from rfl, cut_to]
  have lx : (xs ++ [D.tup [.lst S, .lst M13], .tup [.lst S, .lst (M13.take 12)]]).length = 19 := by rw [List.length_append, f2]; rfl
  obtain ⟨d, hd, hbt⟩ := at_all (P := Bt) r0 (by rw [lx]; exact r1) (ap f3 (ac (bt_pair gS.lg gM13.lg gS.ad gM13.ad) (ac (bt_pair gS.lg (gM13.take 12).lg gS.ad (gM13.take 12).ad) an)))
  refine ⟨d, hd, q_tidy hp hp5 b5 (fun i o z e => ?_) fun cs' g1 g2 g3 => ⟨cs', g1, q d cs' hbt g2 g3⟩⟩
  have e3 : cs3 i = some o := (b3 i z).trans ((b2 i z).trans ((b1 i z).trans e))
  rw [del_ne (fun e' => by rw [e', f0] at e3; cases e3)]
  exact f4 i o e3
local macro_rules | `(tactic| k_search $t) => `(tactic| simp only [$t:term, sNext, sSeq, sAsg, sRet, sRetN, sDrop, e_if, sBreak, sCont, sAsgG, e_par, e_par3, gNm, e_set, e_setC, gList, dVar, dC, dBin, e_int2, e_add_ii, e_add_ib, e_add_ss, e_add_ll, e_add_tt, dSub, dMul, dDiv, dMod, dPow, dShl, dShr, dAnd, dOr, dXor, e_neg, dLt, dLe, dGt, dGe, e_eq_ii, e_eq_bb, e_eq_ss, e_ne_ii, e_ne_bb, e_ne_ss, e_eq_l, e_eq_sl, e_eq_t, e_eq_n, e_ne_l, e_ne_sl, e_ne_t, e_ne_n, e_chain, dTru, e_tb, e_tru_n, e_tru_b, e_tru_i, e_tru_l, e_tru_sl, e_tru_t, e_tru_d, e_andT, e_orT, dNotT, e_andV, e_orV, dNotV, e_ifE, onB_t, onB_f, onB_dec, onB_ndec, onB_not, onI_i, dNil, dCons, dTup, dLst, dLstC, dCall, dFn, dFnK, e_abs, e_max, e_min, e_int_i, e_int_b, e_len_l, e_len_sl, e_len_t, e_len_d, e_len_s, e_len_c, e_sum_l, e_ix_l, e_ix_sl, e_ix_t, e_ix_c, e_ix_s, e_ix_di, e_ix_ds, dSl, e_sl_l, e_sl_sl, e_sl_t, e_sl_s, dNoPart, e_part, iSeq, iTp, e_rng1, iRng2, sFor, sWhile, dDNew, dIsN, dIsNotN, isNon, env0,
  List.map_cons, List.map_nil, List.length_cons, List.length_nil, List.replicate, List.cons_append, List.nil_append, List.append_nil, Nat.sub_self, Nat.reduceSub, Nat.reduceAdd, List.getElem?_cons_zero, List.getElem?_cons_succ, List.set_cons_zero, List.set_cons_succ, Option.some.injEq, Co.lst.injEq, exists_eq_left', exists_eq_left, exists_and_left, List.cons.injEq, decide_eq_true_eq, true_and, and_true, decide_true, decide_false, if_true, if_false, Bool.false_eq_true, Bool.not_true, Bool.not_false, listD, intsOf_map, put_same, put_put, at0, at1, at2, at3, at4, at5, ix20, ix21, sizeLine_eq, Nat.reduceLeDiff, Int.reduceLT, Int.reduceLE, Int.reduceNeg, gt_iff_lt, ge_iff_le, Int.one_mul, wipeD, TgN.vs, List.foldr_cons, List.foldr_nil, tgSet, fStr_i, fReprD_d, e_gtp, onCel_c, onDic_d, onKey_i, onKey_s, dIxC, dInC, dNotInC, dInCN, dUpd, dFrz, dFrzD, e_isB, cellD_dic, cellD_fdic, dBits, dDNewC, Co.dic.injEq, exists_eq', eq_self, and_self, e_enum, e_zip])
local macro_rules | `(tactic| walk_at "dl") => `(tactic| k_search put_same)
local macro_rules | `(tactic| walk_at "nd") => `(tactic| (simp only [List.map_cons, List.map_nil, List.cons_append, List.nil_append, List.append_nil]; decide +kernel))
local macro_rules | `(tactic| walk_at "asm") => `(tactic| repeat (refine And.intro (by assumption) ?_))
/-! ### calls by their names -/
def nmEq (own : Str) : D → Bool | .str s => decide (own = s) | _ => false
def Nm (d : D) : Prop := AD 3 10000 d ∧ ((∃ s, d = .str s) ∨ d = .dic [] ∨ (plB d = true ∧ isStr d = false))
theorem eq_nm {own : Str} {d : D} {c : Z} {R : D → Z → Prop} (ho : TxOk own) (h : Nm d) (q : R (.bl (nmEq own d)) c) : dEqW (.str own) d c R := by
  rcases h.2 with ⟨s, rfl⟩ | rfl | ⟨p, hs⟩
  · exact q
  · exact q
  · obtain ⟨p1, p2⟩ := Bool.and_eq_true_iff.mp (show (plain d && SeqAt.shaped (py d)) = true from p)
    obtain ⟨_, a2, a3⟩ := (Dt.ok (k := 0) (d := .str own) ho.ok)
    have so : SeqAt.shaped (py (.str own)) = true := Bool.and_eq_true_iff.mpr ⟨a2, decide_eq_true (by omega)⟩
    cases d <;> first | (cases hs; done) | (cases p1; done) | exact ⟨rfl, p1, so, p2, q⟩
def firstC (nm : D) (l : List Cl) : Option Cl := l.find? fun c => nmEq c.nm nm
theorem firstC_cons {nm : D} {c : Cl} {l : List Cl} : firstC nm (c :: l) = if nmEq c.nm nm = true then some c else firstC nm l := by
  unfold firstC
  rw [List.find?_cons]
  cases nmEq c.nm nm <;> rfl
def sem_p_call_of : SemX := fun ds cs R XX => ∃ (one : Ct) (nm : D), ds = [one.d, nm] ∧ one.ok ∧ Nm nm ∧ (∀ c, firstC nm one.cl = some c → R (.tup [.tup (c.tk.map Pt.d), c.gv.d]) cs) ∧ (firstC nm one.cl = none → XX ⟨"NoCall", some [("name", nm)]⟩ cs)
theorem len_p_call_of : ∀ ds cs R XX, sem_p_call_of ds cs R XX → ds.length = 2 := by rintro ds cs R XX ⟨_, _, rfl, _⟩; rfl
def bd_p_call_of_1 : DS :=
  (sIf (dTB (dBin dEqW (dVar 2) (dVar 1))) (sRet (dTup (dCons (dVar 3) (dCons (dVar 4) dNil)))) sNext)
/-- call_of: slots 0=contract 1=name 2=own 3=takes 4=gives -/
def den_p_call_of : DS :=
  (sSeq (sFor (iSeq (dBin dIxF (dVar 0) (dC (.int 1)))) (gTp ((gNm 2) :: ((gNm 3) :: ((gNm 4) :: [])))) bd_p_call_of_1)
    (sRaiseF "NoCall" ["name"] (dCons (dVar 1) dNil)))
theorem drop_atC {rows : List Cl} {t : Nat} {e : Cl} (h : rows[t]? = some e) : rows.drop t = e :: rows.drop (t + 1) := by
  have hl := (List.getElem?_eq_some_iff.mp h).1
  rw [List.drop_eq_getElem_cons hl, (List.getElem?_eq_some_iff.mp h).2]
theorem glist3 {a b d : Nat} {x y z : D} {c : Z} {R : Z → Prop} (h : R ⟨((c.env.set a (some x)).set b (some y)).set d (some z), c.cs⟩) : gList [gNm a, gNm b, gNm d] [x, y, z] c R := h
theorem okd_p_call_of : ∀ ds cs R XX, sem_p_call_of ds cs R XX → den_p_call_of { nx := fun c => R .non c.cs, rt := R, xx := fun x c => XX x c.cs } ⟨env0 5 ds, cs⟩ := by
  rintro ds cs R XX ⟨one, nm, rfl, ho, hn, q0, q1⟩
  unfold den_p_call_of sRaiseF gTp Ct.d
  k_search at1
  refine ⟨fun t c => (∃ e2 e3 e4, c = ⟨[some (.tup [.lst (one.sh.map shD), .lst (one.cl.map Cl.d)]), some nm, e2, e3, e4], cs⟩) ∧ firstC nm (one.cl.drop t) = firstC nm one.cl, ⟨⟨_, _, _, rfl⟩, rfl⟩, ?_, ?_⟩
  · rintro t d c2 ht ⟨⟨e2, e3, e4, rfl⟩, hb⟩
    rw [List.getElem?_map] at ht
    cases hc : one.cl[t]? with
    | none => rw [hc] at ht; cases ht
    | some c =>
      rw [hc] at ht
      cases ht
      have hm := List.mem_of_getElem? hc
      rw [drop_atC hc, firstC_cons] at hb
      refine ⟨[.str c.nm, .tup (c.tk.map Pt.d), c.gv.d], rfl, rfl, glist3 ?_⟩
      unfold bd_p_call_of_1
      k_search at1
      refine eq_nm (ho.cl c hm).nm hn ?_
      cases hq : nmEq c.nm nm with
      | true =>
        rw [hq, if_pos rfl] at hb
        exact ⟨_, rfl, _, rfl, q0 c hb.symm⟩
      | false =>
        rw [hq, if_neg (by decide)] at hb
        exact ⟨⟨_, _, _, rfl⟩, hb⟩
  · rintro c2 ⟨⟨e2, e3, e4, rfl⟩, hb⟩
    rw [List.length_map, List.drop_length] at hb
    exact ⟨_, rfl, q1 hb.symm⟩
def sem_l_call_right : Sem := fun ds cs R => ∃ (one : Ct) (nm : D), ds = [one.d, nm] ∧ one.ok ∧ Nm nm ∧ R (.bl true) cs
theorem len_l_call_right : ∀ ds cs R, sem_l_call_right ds cs R → ds.length = 2 := by rintro ds cs R ⟨_, _, rfl, _⟩; rfl
def bd_l_call_right_1 : DS :=
  (sIf (dTB (dBin dEqW (dVar 2) (dVar 1))) (sRet (dTidy (dBin dEq (dFn 2 (semN sem_p_call_of) (fun ds _ => ds) (dCons (dVar 0) (dCons (dVar 1) dNil))) (dTup (dCons (dVar 3) (dCons (dVar 4) dNil)))))) sNext)
def ex_l_call_right_1 : DE :=
  (dAndV (dBin dEq (dCall fReprE (dCons (dXF fldT_name "name" (dVar 5)) dNil)) (dCall fReprE (dCons (dVar 1) dNil))) (dAndV (dIsX isK_KeyError (dVar 5)) (dNotV (dIsX isK_GateError (dVar 5)))))
/-- _law_call_right: slots 0=_law_contract_here 1=_law_name 2=_law_own 3=_law_takes 4=_law_gives 5=e -/
def den_l_call_right : DS :=
  (sSeq (sFor (iSeq (dBin dIxF (dVar 0) (dC (.int 1)))) (gTp ((gNm 2) :: ((gNm 3) :: ((gNm 4) :: [])))) bd_l_call_right_1)
    (sSeq (sTryKeep subT_NoCall 5 (sDropX (dFnX 2 sem_p_call_of (fun ds _ => ds) (dCons (dVar 0) (dCons (dVar 1) dNil)))) (sRet (dTidy ex_l_call_right_1)))
    (sRet (dTidy (dC (.bl false))))))
theorem okd_l_call_right : ∀ ds cs R, sem_l_call_right ds cs R → den_l_call_right { nx := fun c => R .non c.cs, rt := R } ⟨env0 6 ds, cs⟩ := by
  rintro ds cs R ⟨one, nm, rfl, ho, hn, q⟩
  unfold den_l_call_right sTryKeep sDropX dFnX gTp dTidy
  k_search at1
  refine ⟨_, at1, _, rfl, fun t c => (∃ e2 e3 e4, c = ⟨[some one.d, some nm, e2, e3, e4, none], cs⟩) ∧ firstC nm (one.cl.drop t) = firstC nm one.cl, ⟨⟨_, _, _, rfl⟩, rfl⟩, ?_, ?_⟩
  · rintro t d c2 ht ⟨⟨e2, e3, e4, rfl⟩, hb⟩
    rw [List.getElem?_map] at ht
    cases hc : one.cl[t]? with
    | none => rw [hc] at ht; cases ht
    | some c =>
      rw [hc] at ht
      cases ht
      have hm := List.mem_of_getElem? hc
      rw [drop_atC hc, firstC_cons] at hb
      refine ⟨[.str c.nm, .tup (c.tk.map Pt.d), c.gv.d], rfl, rfl, glist3 ?_⟩
      unfold bd_l_call_right_1 dTidy
      k_search at1
      refine eq_nm (ho.cl c hm).nm hn ?_
      cases hq : nmEq c.nm nm with
      | true =>
        rw [hq, if_pos rfl] at hb
        have hx : iso (.tup [.tup (c.tk.map Pt.d), c.gv.d]) = true := by
          show (isoA (c.tk.map Pt.d) && (DL.iso c.gv.d && true)) = true
          rw [isoA_map Pt.iso, Pt.iso]; rfl
        have hdt : Dt 3 (.tup [.tup (c.tk.map Pt.d), c.gv.d]) := fun e he => by
          have := Cl.dt (ho.cl c hm)
          exact this e (List.mem_cons_of_mem _ he)
        obtain ⟨a1, a2, a3⟩ := hdt.ok
        have sh : SeqAt.shaped (py (.tup [.tup (c.tk.map Pt.d), c.gv.d])) = true := Bool.and_eq_true_iff.mpr ⟨a2, decide_eq_true (by omega)⟩
        refine ⟨_, rfl, _, rfl, one, nm, rfl, ho, hn, fun c' e => ?_, fun e => by rw [← hb] at e; cases e⟩
        rw [← hb] at e
        cases e
        refine ⟨_, rfl, _, rfl, a1, a1, sh, sh, ?_⟩
        rw [(eqv_iso hx hx).mpr rfl]
        exact ⟨cs, fun _ _ e => e, q⟩
      | false =>
        rw [hq, if_neg (by decide)] at hb
        exact ⟨⟨_, _, _, rfl⟩, hb⟩
  · rintro c2 ⟨⟨e2, e3, e4, rfl⟩, hb⟩
    rw [List.length_map, List.drop_length] at hb
    have hno : firstC nm one.cl = none := hb.symm
    refine ⟨_, rfl, _, rfl, one, nm, rfl, ho, hn, fun c e => (by rw [hno] at e; cases e), fun _ => ⟨true, rfl, fun _ k hk => ?_, fun z => nomatch z⟩⟩
    unfold ex_l_call_right_1 dXF dIsX
    k_search at1
    refine ⟨_, rfl, rfl, _, rfl, nm, rfl, rep_ad hn.1 (by decide) (by decide) ⟨_, rfl, rep_ad hn.1 (by decide) (by decide) ?_⟩⟩
    show onB (.bl (decide ((pyE nm).shown = (pyE nm).shown))) _ _
    rw [decide_eq_true rfl]
    exact ⟨_, rfl, _, put_same, true, rfl, _, rfl, _, put_same, false, rfl, cs, Gr.put hk, q⟩
local macro_rules | `(tactic| k_search $t) => `(tactic| simp only [$t:term, sNext, sSeq, sAsg, sRet, sRetN, sDrop, e_if, sBreak, sCont, sAsgG, e_par, e_par3, gNm, e_set, e_setC, gList, dVar, dC, dBin, e_int2, e_add_ii, e_add_ib, e_add_ss, e_add_ll, e_add_tt, dSub, dMul, dDiv, dMod, dPow, dShl, dShr, dAnd, dOr, dXor, e_neg, dLt, dLe, dGt, dGe, e_eq_ii, e_eq_bb, e_eq_ss, e_ne_ii, e_ne_bb, e_ne_ss, e_eq_l, e_eq_sl, e_eq_t, e_eq_n, e_ne_l, e_ne_sl, e_ne_t, e_ne_n, e_chain, dTru, e_tb, e_tru_n, e_tru_b, e_tru_i, e_tru_l, e_tru_sl, e_tru_t, e_tru_d, e_andT, e_orT, dNotT, e_andV, e_orV, dNotV, e_ifE, onB_t, onB_f, onB_dec, onB_ndec, onB_not, onI_i, dNil, dCons, dTup, dLst, dLstC, dCall, dFn, dFnK, e_abs, e_max, e_min, e_int_i, e_int_b, e_len_l, e_len_sl, e_len_t, e_len_d, e_len_s, e_len_c, e_sum_l, e_ix_l, e_ix_sl, e_ix_t, e_ix_c, e_ix_s, e_ix_di, e_ix_ds, dSl, e_sl_l, e_sl_sl, e_sl_t, e_sl_s, dNoPart, e_part, iSeq, iTp, e_rng1, iRng2, sFor, sWhile, dDNew, dIsN, dIsNotN, isNon, env0,
  List.map_cons, List.map_nil, List.length_cons, List.length_nil, List.replicate, List.cons_append, List.nil_append, List.append_nil, Nat.sub_self, Nat.reduceSub, Nat.reduceAdd, List.getElem?_cons_zero, List.getElem?_cons_succ, List.set_cons_zero, List.set_cons_succ, Option.some.injEq, Co.lst.injEq, exists_eq_left', exists_eq_left, exists_and_left, List.cons.injEq, decide_eq_true_eq, true_and, and_true, decide_true, decide_false, if_true, if_false, Bool.false_eq_true, Bool.not_true, Bool.not_false, listD, intsOf_map, put_same, put_put, at0, at1, at2, at3, at4, at5, ix20, ix21, sizeLine_eq, Nat.reduceLeDiff, Int.reduceLT, Int.reduceLE, Int.reduceNeg, gt_iff_lt, ge_iff_le, Int.one_mul, wipeD, TgN.vs, List.foldr_cons, List.foldr_nil, tgSet, fStr_i, fReprD_d, e_gtp, onCel_c, onDic_d, onKey_i, onKey_s, dIxC, dInC, dNotInC, dInCN, dUpd, dFrz, dFrzD, e_isB, cellD_dic, cellD_fdic, dBits, dDNewC, Co.dic.injEq, exists_eq', eq_self, and_self, e_enum, e_zip])
local macro_rules | `(tactic| walk_at "dl") => `(tactic| k_search put_same)
local macro_rules | `(tactic| walk_at "nd") => `(tactic| (simp only [List.map_cons, List.map_nil, List.cons_append, List.nil_append, List.append_nil]; decide +kernel))
local macro_rules | `(tactic| walk_at "asm") => `(tactic| repeat (refine And.intro (by assumption) ?_))
/-! ### the law -/
def sem_p_law : Sem := fun ds cs R => ∃ ns : List Int, ds = [.slst (ns.map .int)] ∧ ns.length ≤ 63 ∧ TabH cs ∧ ∀ cs', R (.bl true) cs'
theorem len_p_law : ∀ ds cs R, sem_p_law ds cs R → ds.length = 1 := by rintro ds cs R ⟨n, rfl, _⟩; rfl
theorem end_law : ∀ (ns : List Int) (R : D → Cells → Prop), ns.length ≤ 63 → (∀ cs, R (.bl true) cs) → sem_p_law [.slst (ns.map D.int)] (put (fun _ => none) 0 (.tab "look_at_contract" "look_at_contract.<locals>.<lambda>")) R := fun ns R h q => ⟨ns, rfl, h, ⟨0, put_same⟩, q⟩
theorem TabH.but {cs cs' : Cells} {j : Nat} (h : TabH cs) (hp : cs j = none ∨ Pool cs j) (b : But j cs cs') : TabH cs' := by
  obtain ⟨k, e⟩ := h
  refine ⟨k, (b k fun z => ?_).trans e⟩
  rw [z] at e
  rcases hp with hp | ⟨x, y, hp, _⟩
  · rw [hp] at e; cases e
  · rw [hp] at e; cases e
def te_p_law_1 : DT :=
  (dOrT (dTB (dBin dNe (dFn 1 sem_l_told (fun ds _ => ds) (dCons (dVar 4) dNil)) (dFn 1 sem_l_due (fun ds _ => ds) (dCons (dVar 4) dNil)))) (dTB (dBin dNe (dCall fReprE (dCons (dVar 4) dNil)) (dVar 5))))
def bd_p_law_1 : DS :=
  (sSeq (sAsg (dCall fReprE (dCons (dVar 4) dNil)) 5)
    (sIf te_p_law_1 (sRet (dC (.bl false))) sNext))
def bd_p_law_2 : DS :=
  (sIf (dNotT (dTru (dFn 2 sem_l_call_right (fun ds _ => ds) (dCons (dVar 3) (dCons (dVar 6) dNil))))) (sRet (dC (.bl false))) sNext)
def bd_p_law_3 : DS :=
  (sSeq (sAsg (dFn 2 sem_l_pool (fun ds _ => ds) (dCons (dVar 0) (dCons (dVar 1) dNil))) 2)
    (sSeq (sAsg (dFn 1 sem_l_contract (fun ds _ => ds) (dCons (dVar 2) dNil)) 3)
    (sSeq (sFor (iSeq (dLst (dCons (dVar 3) (dCons (dFn 2 sem_l_bent (fun ds _ => ds) (dCons (dVar 2) (dCons (dVar 3) dNil))) (dCons (dFn 2 sem_l_bent (fun ds _ => ds) (dCons (dVar 2) (dCons (dVar 3) dNil))) (dCons (dFn 2 sem_l_bent (fun ds _ => ds) (dCons (dVar 2) (dCons (dVar 3) dNil))) dNil)))))) (gNm 4) bd_p_law_1)
    (sFor (iSeq (dLst (dCons (dC (.str "find")) (dCons (dC (.str "back")) (dCons (dC (.str "tell")) (dCons (dC (.str "ask")) (dCons (dC (.str "sum")) (dCons (dC (.str "rooms")) (dCons (dC (.str "")) (dCons (dC .non) (dCons (dC (.int 0)) (dCons (dC (.bl true)) (dCons (dLst (dCons (dC (.str "find")) dNil)) (dCons (dTup (dCons (dC (.str "find")) dNil)) (dCons dDNew dNil))))))))))))))) (gNm 6) bd_p_law_2))))
/-- law: slots 0=_law_script 1=_law_k 2=_law_pool_here 3=_law_contract_here 4=_law_thing 5=_law_kept 6=_law_name -/
def den_p_law : DS :=
  (sSeq (sFor (iRng1 (dCons (dCall fMax (dCons (dC (.int 1)) (dCons (dCall fMin (dCons (dCall fLen (dCons (dVar 0) dNil)) (dCons (dC (.int 8)) dNil))) dNil))) dNil)) (gNm 1) bd_p_law_3)
    (sRet (dC (.bl true))))
/-- a thing told and due -/
theorem thing_ok {d : D} {script ek : Option D} {j : Nat} {one : D} {e5 e6 : Option D} {cs : Cells} {DD : DEnds} (h : Bt d) (hT : TabH cs) (nx : ∀ e5, DD.nx ⟨[script, ek, some (.cel j), some one, some d, e5, e6], cs⟩) : bd_p_law_1 DD ⟨[script, ek, some (.cel j), some one, some d, e5, e6], cs⟩ := by
  unfold bd_p_law_1 te_p_law_1
  k_search isTup
  refine rep_ad h.a (by decide) (by decide) ?_
  refine ⟨_, rfl, d, rfl, h.t, hT, _, rfl, d, rfl, h.t, ?_⟩
  show onB (.bl (!decide (dueS d = dueS d))) _ _
  rw [decide_eq_true rfl]
  refine ⟨_, rfl, rep_ad h.a (by decide) (by decide) ⟨_, rfl, ?_⟩⟩
  show onB (.bl (!decide ((pyE d).shown = (pyE d).shown))) _ _
  rw [decide_eq_true rfl]
  exact nx _
def namesL : List D := [.str "find", .str "back", .str "tell", .str "ask", .str "sum", .str "rooms", .str "", .non, .int 0, .bl true, .lst [.str "find"], .tup [.str "find"], .dic []]
def nmB (d : D) : Bool := (kdB 3 d && Nat.ble (wt d) 10000) && (isStr d || (plB d || (match d with | .dic ks => ks.isEmpty | _ => false)))
theorem nmB_of {d : D} (h : nmB d = true) : Nm d := by
  obtain ⟨h1, h2⟩ := Bool.and_eq_true_iff.mp h
  obtain ⟨h3, h4⟩ := Bool.and_eq_true_iff.mp h1
  refine ⟨⟨kdB_of h3, Nat.le_of_ble_eq_true h4⟩, ?_⟩
  cases hs : isStr d with
  | true => exact .inl (by cases d <;> first | exact ⟨_, rfl⟩ | cases hs)
  | false =>
    rw [hs, Bool.false_or] at h2
    rcases Bool.or_eq_true_iff.mp h2 with h2 | h2
    · exact .inr (.inr ⟨h2, rfl⟩)
    · refine .inr (.inl ?_)
      cases d <;> first | (cases h2; done) | skip
      rw [List.isEmpty_iff.mp h2]
theorem names_nm : ∀ d ∈ namesL, Nm d := fun d hd => nmB_of (List.all_eq_true.mp (show namesL.all nmB = true by decide +kernel) d hd)
theorem okd_p_law : ∀ ds cs R, sem_p_law ds cs R → den_p_law { nx := fun c => R .non c.cs, rt := R } ⟨env0 7 ds, cs⟩ := by
  rintro ds cs R ⟨ns, rfl, hl, hT, q⟩
  unfold den_p_law
  obtain ⟨m, em, m0, m1⟩ := turns (n := ns.length) (w := 8) (by decide)
  k_search (List.length_map (as := ns) D.int)
  rw [em]
  refine ⟨by omega, by omega, fun _ c => ∃ e1 e2 e3 e4 e5 e6 cs', c = ⟨[some (.slst (ns.map .int)), e1, e2, e3, e4, e5, e6], cs'⟩ ∧ TabH cs', ⟨_, _, _, _, _, _, _, rfl, hT⟩, ?_, ?_⟩
  case refine_2 =>
    rintro c2 ⟨e1, e2, e3, e4, e5, e6, cs', rfl, _⟩
    exact q _
  rintro i d c2 hd ⟨e1, e2, e3, e4, e5, e6, cs0, rfl, hT0⟩
  obtain ⟨hi, rfl⟩ := rangeD_get hd
  unfold bd_p_law_3
  k_search isTup
  refine ⟨ns, _, rfl, ⟨by omega, by omega⟩, hl, fun j cs1 hj hp b1 => ?_⟩
  refine ⟨j, rfl, hp, fun one cs2 ho hb hp2 b2 => ?_⟩
  refine ⟨j, one, rfl, ho, hb, hp2, fun d1 cs3 h1 hp3 b3 => ⟨j, one, rfl, ho, hb, hp3, fun d2 cs4 h2 hp4 b4 => ⟨j, one, rfl, ho, hb, hp4, fun d3 cs5 h3 hp5 b5 => ?_⟩⟩⟩
  have hT5 : TabH cs5 := ((((hT0.but (.inl hj) b1).but (.inr hp) b2).but (.inr hp2) b3).but (.inr hp3) b4).but (.inr hp4) b5
  refine ⟨fun _ c => ∃ e4 e5, c = ⟨[some (.slst (ns.map .int)), some (.int (0 + (i : Int))), some (.cel j), some one.d, e4, e5, e6], cs5⟩, ⟨_, _, rfl⟩, ?_, ?_⟩
  · rintro t d c2 ht ⟨e4, e5, rfl⟩
    have hbt : Bt d := by
      have hm := List.mem_of_getElem? ht
      simp only [List.mem_cons, List.not_mem_nil, or_false] at hm
      rcases hm with rfl | rfl | rfl | rfl
      · exact ct_bt ho
      · exact h1
      · exact h2
      · exact h3
    exact thing_ok hbt hT5 fun e5 => ⟨_, _, rfl⟩
  · rintro c2 ⟨e4, e5, rfl⟩
    refine ⟨fun _ c => ∃ e6, c = ⟨[some (.slst (ns.map .int)), some (.int (0 + (i : Int))), some (.cel j), some one.d, e4, e5, e6], cs5⟩, ⟨_, rfl⟩, ?_, ?_⟩
    · rintro t d c2 ht ⟨e6, rfl⟩
      have hn : Nm d := names_nm d (List.mem_of_getElem? ht)
      unfold bd_p_law_2
      k_search isTup
      exact ⟨one, d, rfl, ho, hn, true, rfl, iteF' (by decide) ⟨_, rfl⟩⟩
    · rintro c2 ⟨e6, rfl⟩
      exact ⟨_, _, _, _, _, _, _, rfl, hT5⟩
end My
open PySem PySem.W PyProof.Rows
namespace My
open L2 DL
def top (i : Nat) : Stmt := PySem.Challenge.pw_boundgate_k27_contracts_looked_at.main.body.getD i (.Pass ⟨0, 0, 0, 0⟩)
abbrev st_p_is_whole : Stmt := top 7
abbrev st_p_is_worth : Stmt := top 8
abbrev st_p_is_name : Stmt := top 11
abbrev st_p_is_many : Stmt := top 17
abbrev st_p_are_bounds : Stmt := top 18
abbrev st_p_is_of_shelf : Stmt := top 19
abbrev st_p_is_take : Stmt := top 20
abbrev st_p_is_given : Stmt := top 21
abbrev st_p_is_shelf : Stmt := top 22
abbrev st_p_is_call : Stmt := top 23
abbrev st_p_look_at_part : Stmt := top 24
abbrev st_p_look_at_contract : Stmt := top 25
abbrev st_p_call_of : Stmt := top 26
abbrev st_l_pool : Stmt := top 28
abbrev st_l_take : Stmt := top 29
abbrev st_l_bounds : Stmt := top 30
abbrev st_l_contract : Stmt := top 31
abbrev st_l_whole : Stmt := top 32
abbrev st_l_is_name : Stmt := top 33
abbrev st_l_is_tuple : Stmt := top 34
abbrev st_l_is_span : Stmt := top 35
abbrev st_l_is_take : Stmt := top 36
abbrev st_l_is_call : Stmt := top 37
abbrev st_l_is_shelf : Stmt := top 38
abbrev st_l_due : Stmt := top 39
abbrev st_l_told : Stmt := top 40
abbrev st_l_odd : Stmt := top 41
abbrev st_l_bent : Stmt := top 42
abbrev st_l_call_right : Stmt := top 43
abbrev st_p_law : Stmt := top 44
theorem sc_p_is_whole : FnScope ["thing"] ["thing"] (defScope st_p_is_whole) := ⟨rfl, rfl, rfl, by decide +kernel, rfl, by decide +kernel, by decide +kernel⟩
theorem sc_p_is_worth : FnScope ["thing", "wide"] ["thing", "wide"] (defScope st_p_is_worth) := ⟨rfl, rfl, rfl, by decide +kernel, rfl, by decide +kernel, by decide +kernel⟩
theorem sc_p_is_name : FnScope ["thing", "sign"] ["thing"] (defScope st_p_is_name) := ⟨rfl, rfl, rfl, by decide +kernel, rfl, by decide +kernel, by decide +kernel⟩
theorem sc_p_is_many : FnScope ["thing"] ["thing"] (defScope st_p_is_many) := ⟨rfl, rfl, rfl, by decide +kernel, rfl, by decide +kernel, by decide +kernel⟩
theorem sc_p_are_bounds : FnScope ["thing"] ["thing"] (defScope st_p_are_bounds) := ⟨rfl, rfl, rfl, by decide +kernel, rfl, by decide +kernel, by decide +kernel⟩
theorem sc_p_is_of_shelf : FnScope ["thing", "word", "sizes"] ["thing", "word", "sizes"] (defScope st_p_is_of_shelf) := ⟨rfl, rfl, rfl, by decide +kernel, rfl, by decide +kernel, by decide +kernel⟩
theorem sc_p_is_take : FnScope ["thing", "sizes"] ["thing", "sizes"] (defScope st_p_is_take) := ⟨rfl, rfl, rfl, by decide +kernel, rfl, by decide +kernel, by decide +kernel⟩
theorem sc_p_is_given : FnScope ["thing", "takes", "sizes", "take"] ["thing", "takes", "sizes"] (defScope st_p_is_given) := ⟨rfl, rfl, rfl, by decide +kernel, rfl, by decide +kernel, by decide +kernel⟩
theorem sc_p_is_shelf : FnScope ["thing"] ["thing"] (defScope st_p_is_shelf) := ⟨rfl, rfl, rfl, by decide +kernel, rfl, by decide +kernel, by decide +kernel⟩
theorem sc_p_is_call : FnScope ["thing", "sizes", "take"] ["thing", "sizes"] (defScope st_p_is_call) := ⟨rfl, rfl, rfl, by decide +kernel, rfl, by decide +kernel, by decide +kernel⟩
theorem sc_p_look_at_part : FnScope ["part", "thing", "most", "fits", "ahead", "number", "one"] ["part", "thing", "most", "fits"] (defScope st_p_look_at_part) := ⟨rfl, rfl, rfl, by decide +kernel, rfl, by decide +kernel, by decide +kernel⟩
theorem sc_p_look_at_contract : FnScope ["thing", "shelves", "calls", "sizes"] ["thing"] (defScope st_p_look_at_contract) := ⟨rfl, rfl, rfl, by decide +kernel, rfl, by decide +kernel, by decide +kernel⟩
theorem sc_p_call_of : FnScope ["contract", "name", "own", "takes", "gives"] ["contract", "name"] (defScope st_p_call_of) := ⟨rfl, rfl, rfl, by decide +kernel, rfl, by decide +kernel, by decide +kernel⟩
theorem sc_l_pool : FnScope ["_law_script", "_law_k", "_law_cell", "_law_great", "_law_mixed"] ["_law_script", "_law_k"] (defScope st_l_pool) := ⟨rfl, rfl, rfl, by decide +kernel, rfl, by decide +kernel, by decide +kernel⟩
theorem sc_l_take : FnScope ["_law_pool_here", "_law_many", "_law_found"] ["_law_pool_here", "_law_many"] (defScope st_l_take) := ⟨rfl, rfl, rfl, by decide +kernel, rfl, by decide +kernel, by decide +kernel⟩
theorem sc_l_bounds : FnScope ["_law_pool_here", "_law_least"] ["_law_pool_here"] (defScope st_l_bounds) := ⟨rfl, rfl, rfl, by decide +kernel, rfl, by decide +kernel, by decide +kernel⟩
theorem sc_l_contract : FnScope ["_law_pool_here", "_law_shelves", "_law_calls", "_law_name", "_law_shelf", "_law_some", "_law_way"] ["_law_pool_here"] (defScope st_l_contract) := ⟨rfl, rfl, rfl, by decide +kernel, rfl, by decide +kernel, by decide +kernel⟩
theorem sc_l_whole : FnScope ["_law_thing", "_law_least", "_law_most"] ["_law_thing", "_law_least", "_law_most"] (defScope st_l_whole) := ⟨rfl, rfl, rfl, by decide +kernel, rfl, by decide +kernel, by decide +kernel⟩
theorem sc_l_is_name : FnScope ["_law_thing", "_law_sign"] ["_law_thing"] (defScope st_l_is_name) := ⟨rfl, rfl, rfl, by decide +kernel, rfl, by decide +kernel, by decide +kernel⟩
theorem sc_l_is_tuple : FnScope ["_law_thing", "_law_words", "_law_many"] ["_law_thing", "_law_words", "_law_many"] (defScope st_l_is_tuple) := ⟨rfl, rfl, rfl, by decide +kernel, rfl, by decide +kernel, by decide +kernel⟩
theorem sc_l_is_span : FnScope ["_law_thing"] ["_law_thing"] (defScope st_l_is_span) := ⟨rfl, rfl, rfl, by decide +kernel, rfl, by decide +kernel, by decide +kernel⟩
theorem sc_l_is_take : FnScope ["_law_thing", "_law_names"] ["_law_thing", "_law_names"] (defScope st_l_is_take) := ⟨rfl, rfl, rfl, by decide +kernel, rfl, by decide +kernel, by decide +kernel⟩
theorem sc_l_is_call : FnScope ["_law_thing", "_law_names", "_law_takes", "_law_gives", "_law_one", "_law_words"] ["_law_thing", "_law_names"] (defScope st_l_is_call) := ⟨rfl, rfl, rfl, by decide +kernel, rfl, by decide +kernel, by decide +kernel⟩
theorem sc_l_is_shelf : FnScope ["_law_thing"] ["_law_thing"] (defScope st_l_is_shelf) := ⟨rfl, rfl, rfl, by decide +kernel, rfl, by decide +kernel, by decide +kernel⟩
theorem sc_l_due : FnScope ["_law_thing", "_law_names", "_law_number", "_law_one", "_law_other"] ["_law_thing"] (defScope st_l_due) := ⟨rfl, rfl, rfl, by decide +kernel, rfl, by decide +kernel, by decide +kernel⟩
theorem sc_l_told : FnScope ["_law_thing", "_law_error", "_law_found", "e"] ["_law_thing"] (defScope st_l_told) := ⟨rfl, rfl, rfl, by decide +kernel, rfl, by decide +kernel, by decide +kernel⟩
theorem sc_l_odd : FnScope ["_law_pool_here", "_law_some"] ["_law_pool_here"] (defScope st_l_odd) := ⟨rfl, rfl, rfl, by decide +kernel, rfl, by decide +kernel, by decide +kernel⟩
theorem sc_l_bent : FnScope ["_law_pool_here", "_law_contract_here", "_law_shelves", "_law_calls", "_law_at", "_law_spot", "_law_odd_here", "_law_some", "_law_more", "_law_k", "_law_many"] ["_law_pool_here", "_law_contract_here"] (defScope st_l_bent) := ⟨rfl, rfl, rfl, by decide +kernel, rfl, by decide +kernel, by decide +kernel⟩
theorem sc_l_call_right : FnScope ["_law_contract_here", "_law_name", "_law_own", "_law_takes", "_law_gives", "e"] ["_law_contract_here", "_law_name"] (defScope st_l_call_right) := ⟨rfl, rfl, rfl, by decide +kernel, rfl, by decide +kernel, by decide +kernel⟩
theorem sc_p_law : FnScope ["_law_script", "_law_k", "_law_pool_here", "_law_contract_here", "_law_thing", "_law_kept", "_law_name"] ["_law_script"] (defScope st_p_law) := ⟨rfl, rfl, rfl, by decide +kernel, rfl, by decide +kernel, by decide +kernel⟩
abbrev sti_NoContract : Stmt := clsKid (top 3) 0
theorem sci_NoContract : FnScope ["self", "part", "number"] ["self", "part", "number"] (defScope sti_NoContract) := ⟨rfl, rfl, rfl, by decide +kernel, rfl, by decide +kernel, by decide +kernel⟩
abbrev sti_NoCall : Stmt := clsKid (top 4) 0
theorem sci_NoCall : FnScope ["self", "name"] ["self", "name"] (defScope sti_NoCall) := ⟨rfl, rfl, rfl, by decide +kernel, rfl, by decide +kernel, by decide +kernel⟩
structure Ad where
  a_p_is_whole : Addr
  fd_p_is_whole : FuncData
  a_p_is_worth : Addr
  fd_p_is_worth : FuncData
  a_p_is_name : Addr
  fd_p_is_name : FuncData
  a_p_is_many : Addr
  fd_p_is_many : FuncData
  a_p_are_bounds : Addr
  fd_p_are_bounds : FuncData
  a_p_is_of_shelf : Addr
  fd_p_is_of_shelf : FuncData
  a_p_is_take : Addr
  fd_p_is_take : FuncData
  a_p_is_given : Addr
  fd_p_is_given : FuncData
  a_p_is_shelf : Addr
  fd_p_is_shelf : FuncData
  a_p_is_call : Addr
  fd_p_is_call : FuncData
  a_p_look_at_part : Addr
  fd_p_look_at_part : FuncData
  a_p_look_at_contract : Addr
  fd_p_look_at_contract : FuncData
  a_p_call_of : Addr
  fd_p_call_of : FuncData
  a_l_pool : Addr
  fd_l_pool : FuncData
  a_l_take : Addr
  fd_l_take : FuncData
  a_l_bounds : Addr
  fd_l_bounds : FuncData
  a_l_contract : Addr
  fd_l_contract : FuncData
  a_l_whole : Addr
  fd_l_whole : FuncData
  a_l_is_name : Addr
  fd_l_is_name : FuncData
  a_l_is_tuple : Addr
  fd_l_is_tuple : FuncData
  a_l_is_span : Addr
  fd_l_is_span : FuncData
  a_l_is_take : Addr
  fd_l_is_take : FuncData
  a_l_is_call : Addr
  fd_l_is_call : FuncData
  a_l_is_shelf : Addr
  fd_l_is_shelf : FuncData
  a_l_due : Addr
  fd_l_due : FuncData
  a_l_told : Addr
  fd_l_told : FuncData
  a_l_odd : Addr
  fd_l_odd : FuncData
  a_l_bent : Addr
  fd_l_bent : FuncData
  a_l_call_right : Addr
  fd_l_call_right : FuncData
  a_p_law : Addr
  fd_p_law : FuncData
  x_GateError : Addr
  x_NoCall : Addr
  x_NoContract : Addr
  x_NoProgram : Addr
  i_NoContract : Addr
  fi_NoContract : FuncData
  i_NoCall : Addr
  fi_NoCall : FuncData
  tc : Addr
  tT : Addr
structure Txt (base : Heap) (K : PySem.W.Frag) (mg : Str → Option Value) (A : Ad) : Prop where
  F_p_is_whole : FunD K "is_whole" "is_whole" (defArgs st_p_is_whole) (defBody st_p_is_whole) (defScope st_p_is_whole) [] [] A.a_p_is_whole A.fd_p_is_whole
  m_p_is_whole : mg "is_whole" = some (.ref A.a_p_is_whole)
  F_p_is_worth : FunD K "is_worth" "is_worth" (defArgs st_p_is_worth) (defBody st_p_is_worth) (defScope st_p_is_worth) [] [("wide", .int 16)] A.a_p_is_worth A.fd_p_is_worth
  m_p_is_worth : mg "is_worth" = some (.ref A.a_p_is_worth)
  F_p_is_name : FunD K "is_name" "is_name" (defArgs st_p_is_name) (defBody st_p_is_name) (defScope st_p_is_name) [] [] A.a_p_is_name A.fd_p_is_name
  m_p_is_name : mg "is_name" = some (.ref A.a_p_is_name)
  F_p_is_many : FunD K "is_many" "is_many" (defArgs st_p_is_many) (defBody st_p_is_many) (defScope st_p_is_many) [] [] A.a_p_is_many A.fd_p_is_many
  m_p_is_many : mg "is_many" = some (.ref A.a_p_is_many)
  F_p_are_bounds : FunD K "are_bounds" "are_bounds" (defArgs st_p_are_bounds) (defBody st_p_are_bounds) (defScope st_p_are_bounds) [] [] A.a_p_are_bounds A.fd_p_are_bounds
  m_p_are_bounds : mg "are_bounds" = some (.ref A.a_p_are_bounds)
  F_p_is_of_shelf : FunD K "is_of_shelf" "is_of_shelf" (defArgs st_p_is_of_shelf) (defBody st_p_is_of_shelf) (defScope st_p_is_of_shelf) [] [] A.a_p_is_of_shelf A.fd_p_is_of_shelf
  m_p_is_of_shelf : mg "is_of_shelf" = some (.ref A.a_p_is_of_shelf)
  F_p_is_take : FunD K "is_take" "is_take" (defArgs st_p_is_take) (defBody st_p_is_take) (defScope st_p_is_take) [] [] A.a_p_is_take A.fd_p_is_take
  m_p_is_take : mg "is_take" = some (.ref A.a_p_is_take)
  F_p_is_given : FunD K "is_given" "is_given" (defArgs st_p_is_given) (defBody st_p_is_given) (defScope st_p_is_given) [] [] A.a_p_is_given A.fd_p_is_given
  m_p_is_given : mg "is_given" = some (.ref A.a_p_is_given)
  F_p_is_shelf : FunD K "is_shelf" "is_shelf" (defArgs st_p_is_shelf) (defBody st_p_is_shelf) (defScope st_p_is_shelf) [] [] A.a_p_is_shelf A.fd_p_is_shelf
  m_p_is_shelf : mg "is_shelf" = some (.ref A.a_p_is_shelf)
  F_p_is_call : FunD K "is_call" "is_call" (defArgs st_p_is_call) (defBody st_p_is_call) (defScope st_p_is_call) [] [] A.a_p_is_call A.fd_p_is_call
  m_p_is_call : mg "is_call" = some (.ref A.a_p_is_call)
  F_p_look_at_part : FunD K "look_at_part" "look_at_part" (defArgs st_p_look_at_part) (defBody st_p_look_at_part) (defScope st_p_look_at_part) [] [] A.a_p_look_at_part A.fd_p_look_at_part
  m_p_look_at_part : mg "look_at_part" = some (.ref A.a_p_look_at_part)
  F_p_look_at_contract : FunD K "look_at_contract" "look_at_contract" (defArgs st_p_look_at_contract) (defBody st_p_look_at_contract) (defScope st_p_look_at_contract) [] [] A.a_p_look_at_contract A.fd_p_look_at_contract
  m_p_look_at_contract : mg "look_at_contract" = some (.ref A.a_p_look_at_contract)
  F_p_call_of : FunD K "call_of" "call_of" (defArgs st_p_call_of) (defBody st_p_call_of) (defScope st_p_call_of) [] [] A.a_p_call_of A.fd_p_call_of
  m_p_call_of : mg "call_of" = some (.ref A.a_p_call_of)
  F_l_pool : FunD K "_law_pool" "_law_pool" (defArgs st_l_pool) (defBody st_l_pool) (defScope st_l_pool) [] [] A.a_l_pool A.fd_l_pool
  m_l_pool : mg "_law_pool" = some (.ref A.a_l_pool)
  F_l_take : FunD K "_law_take" "_law_take" (defArgs st_l_take) (defBody st_l_take) (defScope st_l_take) [] [] A.a_l_take A.fd_l_take
  m_l_take : mg "_law_take" = some (.ref A.a_l_take)
  F_l_bounds : FunD K "_law_bounds" "_law_bounds" (defArgs st_l_bounds) (defBody st_l_bounds) (defScope st_l_bounds) [] [] A.a_l_bounds A.fd_l_bounds
  m_l_bounds : mg "_law_bounds" = some (.ref A.a_l_bounds)
  F_l_contract : FunD K "_law_contract" "_law_contract" (defArgs st_l_contract) (defBody st_l_contract) (defScope st_l_contract) [] [] A.a_l_contract A.fd_l_contract
  m_l_contract : mg "_law_contract" = some (.ref A.a_l_contract)
  F_l_whole : FunD K "_law_whole" "_law_whole" (defArgs st_l_whole) (defBody st_l_whole) (defScope st_l_whole) [] [] A.a_l_whole A.fd_l_whole
  m_l_whole : mg "_law_whole" = some (.ref A.a_l_whole)
  F_l_is_name : FunD K "_law_is_name" "_law_is_name" (defArgs st_l_is_name) (defBody st_l_is_name) (defScope st_l_is_name) [] [] A.a_l_is_name A.fd_l_is_name
  m_l_is_name : mg "_law_is_name" = some (.ref A.a_l_is_name)
  F_l_is_tuple : FunD K "_law_is_tuple" "_law_is_tuple" (defArgs st_l_is_tuple) (defBody st_l_is_tuple) (defScope st_l_is_tuple) [] [] A.a_l_is_tuple A.fd_l_is_tuple
  m_l_is_tuple : mg "_law_is_tuple" = some (.ref A.a_l_is_tuple)
  F_l_is_span : FunD K "_law_is_span" "_law_is_span" (defArgs st_l_is_span) (defBody st_l_is_span) (defScope st_l_is_span) [] [] A.a_l_is_span A.fd_l_is_span
  m_l_is_span : mg "_law_is_span" = some (.ref A.a_l_is_span)
  F_l_is_take : FunD K "_law_is_take" "_law_is_take" (defArgs st_l_is_take) (defBody st_l_is_take) (defScope st_l_is_take) [] [] A.a_l_is_take A.fd_l_is_take
  m_l_is_take : mg "_law_is_take" = some (.ref A.a_l_is_take)
  F_l_is_call : FunD K "_law_is_call" "_law_is_call" (defArgs st_l_is_call) (defBody st_l_is_call) (defScope st_l_is_call) [] [] A.a_l_is_call A.fd_l_is_call
  m_l_is_call : mg "_law_is_call" = some (.ref A.a_l_is_call)
  F_l_is_shelf : FunD K "_law_is_shelf" "_law_is_shelf" (defArgs st_l_is_shelf) (defBody st_l_is_shelf) (defScope st_l_is_shelf) [] [] A.a_l_is_shelf A.fd_l_is_shelf
  m_l_is_shelf : mg "_law_is_shelf" = some (.ref A.a_l_is_shelf)
  F_l_due : FunD K "_law_due" "_law_due" (defArgs st_l_due) (defBody st_l_due) (defScope st_l_due) [] [] A.a_l_due A.fd_l_due
  m_l_due : mg "_law_due" = some (.ref A.a_l_due)
  F_l_told : FunD K "_law_told" "_law_told" (defArgs st_l_told) (defBody st_l_told) (defScope st_l_told) [] [] A.a_l_told A.fd_l_told
  m_l_told : mg "_law_told" = some (.ref A.a_l_told)
  F_l_odd : FunD K "_law_odd" "_law_odd" (defArgs st_l_odd) (defBody st_l_odd) (defScope st_l_odd) [] [] A.a_l_odd A.fd_l_odd
  m_l_odd : mg "_law_odd" = some (.ref A.a_l_odd)
  F_l_bent : FunD K "_law_bent" "_law_bent" (defArgs st_l_bent) (defBody st_l_bent) (defScope st_l_bent) [] [] A.a_l_bent A.fd_l_bent
  m_l_bent : mg "_law_bent" = some (.ref A.a_l_bent)
  F_l_call_right : FunD K "_law_call_right" "_law_call_right" (defArgs st_l_call_right) (defBody st_l_call_right) (defScope st_l_call_right) [] [] A.a_l_call_right A.fd_l_call_right
  m_l_call_right : mg "_law_call_right" = some (.ref A.a_l_call_right)
  F_p_law : FunD K "law" "law" (defArgs st_p_law) (defBody st_p_law) (defScope st_p_law) [] [] A.a_p_law A.fd_p_law
  m_p_law : mg "law" = some (.ref A.a_p_law)
  b_KeyError : mg "KeyError" = none
  b_abs : mg "abs" = none
  b_all : mg "all" = none
  b_bool : mg "bool" = none
  b_dict : mg "dict" = none
  b_enumerate : mg "enumerate" = none
  b_int : mg "int" = none
  b_isinstance : mg "isinstance" = none
  b_len : mg "len" = none
  b_list : mg "list" = none
  b_max : mg "max" = none
  b_min : mg "min" = none
  b_range : mg "range" = none
  b_repr : mg "repr" = none
  b_str : mg "str" = none
  b_sum : mg "sum" = none
  b_tuple : mg "tuple" = none
  nf_p_is_shelf : ClsK K "is_shelf" A.a_p_is_shelf
  g_GateError : mg "GateError" = some (.ref A.x_GateError)
  n_GateError : ClsK K "GateError" A.x_GateError
  g_NoCall : mg "NoCall" = some (.ref A.x_NoCall)
  n_NoCall : ClsK K "NoCall" A.x_NoCall
  g_NoContract : mg "NoContract" = some (.ref A.x_NoContract)
  n_NoContract : ClsK K "NoContract" A.x_NoContract
  g_NoProgram : mg "NoProgram" = some (.ref A.x_NoProgram)
  n_NoProgram : ClsK K "NoProgram" A.x_NoProgram
  E_NoContract : ExcC K A.x_NoContract
  E_NoCall : ExcC K A.x_NoCall
  I_NoContract : FunD K "__init__" "NoContract.__init__" (defArgs sti_NoContract) (defBody sti_NoContract) (defScope sti_NoContract) [] [] A.i_NoContract A.fi_NoContract
  ic_NoContract : PySem.W.findIn K (.ref A.x_NoContract) "__init__" = some (some (.ref A.i_NoContract))
  it_NoContract : PySem.W.typeIn K (.ref A.i_NoContract) = some (.type "function")
  O_NoContract : OexC K A.x_NoContract
  no_NoContract_part : PySem.W.findIn K (.ref A.x_NoContract) "part" = some none
  no_NoContract_number : PySem.W.findIn K (.ref A.x_NoContract) "number" = some none
  xf_NoContract : XfC K A.x_NoContract
  I_NoCall : FunD K "__init__" "NoCall.__init__" (defArgs sti_NoCall) (defBody sti_NoCall) (defScope sti_NoCall) [] [] A.i_NoCall A.fi_NoCall
  ic_NoCall : PySem.W.findIn K (.ref A.x_NoCall) "__init__" = some (some (.ref A.i_NoCall))
  it_NoCall : PySem.W.typeIn K (.ref A.i_NoCall) = some (.type "function")
  O_NoCall : OexK K A.x_NoCall
  no_NoCall_name : PySem.W.findIn K (.ref A.x_NoCall) "name" = some none
  xf_NoCall : XfC K A.x_NoCall
  cb_GateError : ClsI K A.x_GateError
  cKeyError : PySem.W.findCls K (.type "KeyError") (.type "type") "__init__" = some (.val (.builtin "KeyError.__init__"))
  h_NoContract_GateError : PySem.W.exmOne K (.ref A.x_NoContract) (.ref A.x_GateError) = some true
  h_NoCall_GateError : PySem.W.exmOne K (.ref A.x_NoCall) (.ref A.x_GateError) = some false
  h_NoContract_NoCall : PySem.W.exmOne K (.ref A.x_NoContract) (.ref A.x_NoCall) = some false
  h_NoCall_NoCall : PySem.W.exmOne K (.ref A.x_NoCall) (.ref A.x_NoCall) = some true
  i_NoContract_GateError : PySem.W.kitOne K (.ref A.x_NoContract) (.ref A.x_GateError) = some true
  i_NoCall_GateError : PySem.W.kitOne K (.ref A.x_NoCall) (.ref A.x_GateError) = some false
  i_NoContract_KeyError : PySem.W.kitOne K (.ref A.x_NoContract) (.type "KeyError") = some false
  i_NoCall_KeyError : PySem.W.kitOne K (.ref A.x_NoCall) (.type "KeyError") = some true
  i_NoContract_NoContract : PySem.W.kitOne K (.ref A.x_NoContract) (.ref A.x_NoContract) = some true
  i_NoCall_NoContract : PySem.W.kitOne K (.ref A.x_NoCall) (.ref A.x_NoContract) = some false
  i_NoContract_NoProgram : PySem.W.kitOne K (.ref A.x_NoContract) (.ref A.x_NoProgram) = some false
  i_NoCall_NoProgram : PySem.W.kitOne K (.ref A.x_NoCall) (.ref A.x_NoProgram) = some false
  c_LONGEST : ∃ t, mg "LONGEST" = some (.int 8 t)
  c_MOST_SHELVES : ∃ t, mg "MOST_SHELVES" = some (.int 4 t)
  c_MOST_CALLS : ∃ t, mg "MOST_CALLS" = some (.int 12 t)
  c_MOST_TAKES : ∃ t, mg "MOST_TAKES" = some (.int 3 t)
  c_MOST_CELLS : ∃ t, mg "MOST_CELLS" = some (.int 8 t)
  TB : LamX.TabB base mg A.tc A.tT
  TK : TabK K "look_at_contract" A.tT
  fdC : A.fd_p_look_at_contract.code = .ref A.tc
abbrev lam_e : Expr := lamOf (defBody st_p_look_at_contract)
theorem lam_sc : NdefX.NScope ((["one"] : List Str) ++ (["sizes"] : List Str)) (["one"] : List Str) (["sizes"] : List Str) (lamS lam_e) := NdefX.nscope_by (by decide +kernel)
theorem lam_bind : ∀ (cl : List (Str × Addr)) (pm cv ctv : Value) (us : List Value), us.length = (["one"] : List Str).length → bindArgs (PySem.W.kla_fn "<lambda>" "look_at_contract.<locals>.<lambda>" (lamP lam_e) (lamB lam_e) (lamS lam_e) cl pm cv ctv) ⟨us, []⟩ = pure ((["one"] : List Str).zip us) := fun cl pm cv ctv us hl => match us, hl with | [_], _ => rfl
theorem lam_free : ∀ y ∈ (lamS lam_e).names, y.2 = .free → (defScope st_p_look_at_contract).names.lookup y.1 = some .cell ∨ (defScope st_p_look_at_contract).names.lookup y.1 = some .free := NdefX.ndef_free (fr := (["sizes"] : List Str)) (by decide +kernel)
theorem lam_fr : ∀ y ∈ (["sizes"] : List Str), (y, NameKind.free) ∈ (lamS lam_e).names := NdefX.ndef_fr (sc := defScope st_p_look_at_contract) (by decide +kernel)
theorem lam_q : ("look_at_contract.<locals>." : Str) ++ ("<lambda>" : Str) = "look_at_contract.<locals>.<lambda>" := by decide +kernel
section
variable {P : Program} {w : World} {K : PySem.W.Frag} {mg : Str → Option Value} {base : Heap} {Ad0 : Ad}
theorem sub_GateError (T : Txt base K mg Ad0) : ∀ r b C, subT_GateError r = some b → mg r = some (.ref C) → PySem.W.exmOne K (.ref C) (.ref Ad0.x_GateError) = some b := by
  intro r b C e hm
  unfold subT_GateError at e
  by_cases h : r = "NoContract"
  · rw [if_pos h] at e; cases e; subst h; rw [T.g_NoContract] at hm; cases hm; exact T.h_NoContract_GateError
  rw [if_neg h] at e
  by_cases h : r = "NoCall"
  · rw [if_pos h] at e; cases e; subst h; rw [T.g_NoCall] at hm; cases hm; exact T.h_NoCall_GateError
  rw [if_neg h] at e
  cases e
theorem sub_NoCall (T : Txt base K mg Ad0) : ∀ r b C, subT_NoCall r = some b → mg r = some (.ref C) → PySem.W.exmOne K (.ref C) (.ref Ad0.x_NoCall) = some b := by
  intro r b C e hm
  unfold subT_NoCall at e
  by_cases h : r = "NoContract"
  · rw [if_pos h] at e; cases e; subst h; rw [T.g_NoContract] at hm; cases hm; exact T.h_NoContract_NoCall
  rw [if_neg h] at e
  by_cases h : r = "NoCall"
  · rw [if_pos h] at e; cases e; subst h; rw [T.g_NoCall] at hm; cases hm; exact T.h_NoCall_NoCall
  rw [if_neg h] at e
  cases e
theorem cl_GateError (T : Txt base K mg Ad0) : ∀ r b C, subT_GateError r = some b → mg r = some (.ref C) → ClsK K r C := by
  intro r b C e hm
  unfold subT_GateError at e
  by_cases h : r = "NoContract"
  · subst h; rw [T.g_NoContract] at hm; cases hm; exact T.n_NoContract
  rw [if_neg h] at e
  by_cases h : r = "NoCall"
  · subst h; rw [T.g_NoCall] at hm; cases hm; exact T.n_NoCall
  rw [if_neg h] at e
  cases e
theorem cl_NoCall (T : Txt base K mg Ad0) : ∀ r b C, subT_NoCall r = some b → mg r = some (.ref C) → ClsK K r C := by
  intro r b C e hm
  unfold subT_NoCall at e
  by_cases h : r = "NoContract"
  · subst h; rw [T.g_NoContract] at hm; cases hm; exact T.n_NoContract
  rw [if_neg h] at e
  by_cases h : r = "NoCall"
  · subst h; rw [T.g_NoCall] at hm; cases hm; exact T.n_NoCall
  rw [if_neg h] at e
  cases e
theorem isK_ok_GateError (T : Txt base K mg Ad0) : ∀ r b C, isK_GateError r = some b → ClsK K r C → ExcC K C ∧ PySem.W.kitOne K (.ref C) (.ref Ad0.x_GateError) = some b := by
  intro r b C e hc
  unfold isK_GateError at e
  by_cases h : r = "NoContract"
  · rw [if_pos h] at e; cases e; subst h; have e2 := hc.symm.trans T.n_NoContract; cases e2; exact ⟨T.E_NoContract, T.i_NoContract_GateError⟩
  rw [if_neg h] at e
  by_cases h : r = "NoCall"
  · rw [if_pos h] at e; cases e; subst h; have e2 := hc.symm.trans T.n_NoCall; cases e2; exact ⟨T.E_NoCall, T.i_NoCall_GateError⟩
  rw [if_neg h] at e
  cases e
theorem isK_ok_KeyError (T : Txt base K mg Ad0) : ∀ r b C, isK_KeyError r = some b → ClsK K r C → ExcC K C ∧ PySem.W.kitOne K (.ref C) (.type "KeyError") = some b := by
  intro r b C e hc
  unfold isK_KeyError at e
  by_cases h : r = "NoContract"
  · rw [if_pos h] at e; cases e; subst h; have e2 := hc.symm.trans T.n_NoContract; cases e2; exact ⟨T.E_NoContract, T.i_NoContract_KeyError⟩
  rw [if_neg h] at e
  by_cases h : r = "NoCall"
  · rw [if_pos h] at e; cases e; subst h; have e2 := hc.symm.trans T.n_NoCall; cases e2; exact ⟨T.E_NoCall, T.i_NoCall_KeyError⟩
  rw [if_neg h] at e
  cases e
theorem isK_ok_NoContract (T : Txt base K mg Ad0) : ∀ r b C, isK_NoContract r = some b → ClsK K r C → ExcC K C ∧ PySem.W.kitOne K (.ref C) (.ref Ad0.x_NoContract) = some b := by
  intro r b C e hc
  unfold isK_NoContract at e
  by_cases h : r = "NoContract"
  · rw [if_pos h] at e; cases e; subst h; have e2 := hc.symm.trans T.n_NoContract; cases e2; exact ⟨T.E_NoContract, T.i_NoContract_NoContract⟩
  rw [if_neg h] at e
  by_cases h : r = "NoCall"
  · rw [if_pos h] at e; cases e; subst h; have e2 := hc.symm.trans T.n_NoCall; cases e2; exact ⟨T.E_NoCall, T.i_NoCall_NoContract⟩
  rw [if_neg h] at e
  cases e
theorem isK_ok_NoProgram (T : Txt base K mg Ad0) : ∀ r b C, isK_NoProgram r = some b → ClsK K r C → ExcC K C ∧ PySem.W.kitOne K (.ref C) (.ref Ad0.x_NoProgram) = some b := by
  intro r b C e hc
  unfold isK_NoProgram at e
  by_cases h : r = "NoContract"
  · rw [if_pos h] at e; cases e; subst h; have e2 := hc.symm.trans T.n_NoContract; cases e2; exact ⟨T.E_NoContract, T.i_NoContract_NoProgram⟩
  rw [if_neg h] at e
  by_cases h : r = "NoCall"
  · rw [if_pos h] at e; cases e; subst h; have e2 := hc.symm.trans T.n_NoCall; cases e2; exact ⟨T.E_NoCall, T.i_NoCall_NoProgram⟩
  rw [if_neg h] at e
  cases e
theorem fld_ok_name (T : Txt base K mg Ad0) : ∀ r C, fldT_name r = true → ClsK K r C → XfC K C ∧ PySem.W.findIn K (.ref C) "name" = some none := by
  intro r C e hc
  unfold fldT_name at e
  by_cases h : r = "NoCall"
  · subst h; have e2 := hc.symm.trans T.n_NoCall; cases e2; exact ⟨T.xf_NoCall, T.no_NoCall_name⟩
  rw [if_neg h] at e
  cases e
theorem fld_ok_number (T : Txt base K mg Ad0) : ∀ r C, fldT_number r = true → ClsK K r C → XfC K C ∧ PySem.W.findIn K (.ref C) "number" = some none := by
  intro r C e hc
  unfold fldT_number at e
  by_cases h : r = "NoContract"
  · subst h; have e2 := hc.symm.trans T.n_NoContract; cases e2; exact ⟨T.xf_NoContract, T.no_NoContract_number⟩
  rw [if_neg h] at e
  cases e
theorem fld_ok_part (T : Txt base K mg Ad0) : ∀ r C, fldT_part r = true → ClsK K r C → XfC K C ∧ PySem.W.findIn K (.ref C) "part" = some none := by
  intro r C e hc
  unfold fldT_part at e
  by_cases h : r = "NoContract"
  · subst h; have e2 := hc.symm.trans T.n_NoContract; cases e2; exact ⟨T.xf_NoContract, T.no_NoContract_part⟩
  rw [if_neg h] at e
  cases e
theorem exf_NoContract (T : Txt base K mg Ad0) : ExF P w K mg base "NoContract" Ad0.x_NoContract ["part", "number"] :=
  ⟨T.O_NoContract, T.g_NoContract, _, _, T.ic_NoContract, T.it_NoContract, init2 T.I_NoContract sci_NoContract rfl rfl rfl rfl rfl (by decide) (by decide) (by decide) (by decide) (by decide) rfl T.g_GateError T.cb_GateError T.O_NoContract T.no_NoContract_part T.no_NoContract_number, T.I_NoContract.bindsN fun _ _ _ _ _ _ us hl => match us, hl with | [_, _, _], _ => rfl⟩
theorem exf_NoCall (T : Txt base K mg Ad0) : ExK P w K mg base "NoCall" Ad0.x_NoCall ["name"] :=
  ⟨T.O_NoCall, T.g_NoCall, _, _, T.ic_NoCall, T.it_NoCall, initK1 T.I_NoCall sci_NoCall rfl rfl rfl rfl (by decide) (by decide) rfl T.b_KeyError T.cKeyError T.O_NoCall T.no_NoCall_name, T.I_NoCall.bindsN fun _ _ _ _ _ _ us hl => match us, hl with | [_, _], _ => rfl⟩
theorem bn_p_is_whole_1 (T : Txt base K mg Ad0) : Bnd K Ad0.fd_p_is_whole ["thing"] 1 [] (fun ds _ => ds) :=
  Bnd.all (T.F_p_is_whole.bindsN fun _ _ _ _ _ _ us hl => match us, hl with | [_], _ => rfl)
theorem bn_p_is_worth_1 (T : Txt base K mg Ad0) : Bnd K Ad0.fd_p_is_worth ["thing", "wide"] 1 [] (fun ds _ => ds ++ [.int 16]) := by
  obtain ⟨ds0, r0, hb⟩ := T.F_p_is_worth.binds0 (ps := ["thing", "wide"]) 1 (by decide) rfl fun D doc pm an cdv ct us ks hu hk => match us, hu, ks, hk with | [_], _, [_], _ => by refine ⟨_, _, _, _, _, _, rfl, rfl, ?_⟩; exact kw_end rfl
  exact Bnd.dfl hb r0 (fun _ _ => .cons (.int _) (.nil)) rfl
theorem bn_p_is_name_1 (T : Txt base K mg Ad0) : Bnd K Ad0.fd_p_is_name ["thing"] 1 [] (fun ds _ => ds) :=
  Bnd.all (T.F_p_is_name.bindsN fun _ _ _ _ _ _ us hl => match us, hl with | [_], _ => rfl)
theorem bn_p_are_bounds_1 (T : Txt base K mg Ad0) : Bnd K Ad0.fd_p_are_bounds ["thing"] 1 [] (fun ds _ => ds) :=
  Bnd.all (T.F_p_are_bounds.bindsN fun _ _ _ _ _ _ us hl => match us, hl with | [_], _ => rfl)
theorem bn_p_is_of_shelf_3 (T : Txt base K mg Ad0) : Bnd K Ad0.fd_p_is_of_shelf ["thing", "word", "sizes"] 3 [] (fun ds _ => ds) :=
  Bnd.all (T.F_p_is_of_shelf.bindsN fun _ _ _ _ _ _ us hl => match us, hl with | [_, _, _], _ => rfl)
theorem bn_p_is_many_1 (T : Txt base K mg Ad0) : Bnd K Ad0.fd_p_is_many ["thing"] 1 [] (fun ds _ => ds) :=
  Bnd.all (T.F_p_is_many.bindsN fun _ _ _ _ _ _ us hl => match us, hl with | [_], _ => rfl)
theorem bn_p_is_take_2 (T : Txt base K mg Ad0) : Bnd K Ad0.fd_p_is_take ["thing", "sizes"] 2 [] (fun ds _ => ds) :=
  Bnd.all (T.F_p_is_take.bindsN fun _ _ _ _ _ _ us hl => match us, hl with | [_, _], _ => rfl)
theorem bn_p_is_given_3 (T : Txt base K mg Ad0) : Bnd K Ad0.fd_p_is_given ["thing", "takes", "sizes"] 3 [] (fun ds _ => ds) :=
  Bnd.all (T.F_p_is_given.bindsN fun _ _ _ _ _ _ us hl => match us, hl with | [_, _, _], _ => rfl)
theorem bn_p_is_shelf_1 (T : Txt base K mg Ad0) : Bnd K Ad0.fd_p_is_shelf ["thing"] 1 [] (fun ds _ => ds) :=
  Bnd.all (T.F_p_is_shelf.bindsN fun _ _ _ _ _ _ us hl => match us, hl with | [_], _ => rfl)
theorem bn_p_is_call_2 (T : Txt base K mg Ad0) : Bnd K Ad0.fd_p_is_call ["thing", "sizes"] 2 [] (fun ds _ => ds) :=
  Bnd.all (T.F_p_is_call.bindsN fun _ _ _ _ _ _ us hl => match us, hl with | [_, _], _ => rfl)
theorem bn_p_look_at_part_4 (T : Txt base K mg Ad0) : Bnd K Ad0.fd_p_look_at_part ["part", "thing", "most", "fits"] 4 [] (fun ds _ => ds) :=
  Bnd.all (T.F_p_look_at_part.bindsN fun _ _ _ _ _ _ us hl => match us, hl with | [_, _, _, _], _ => rfl)
theorem bn_l_take_2 (T : Txt base K mg Ad0) : Bnd K Ad0.fd_l_take ["_law_pool_here", "_law_many"] 2 [] (fun ds _ => ds) :=
  Bnd.all (T.F_l_take.bindsN fun _ _ _ _ _ _ us hl => match us, hl with | [_, _], _ => rfl)
theorem bn_l_bounds_1 (T : Txt base K mg Ad0) : Bnd K Ad0.fd_l_bounds ["_law_pool_here"] 1 [] (fun ds _ => ds) :=
  Bnd.all (T.F_l_bounds.bindsN fun _ _ _ _ _ _ us hl => match us, hl with | [_], _ => rfl)
theorem bn_l_is_tuple_3 (T : Txt base K mg Ad0) : Bnd K Ad0.fd_l_is_tuple ["_law_thing", "_law_words", "_law_many"] 3 [] (fun ds _ => ds) :=
  Bnd.all (T.F_l_is_tuple.bindsN fun _ _ _ _ _ _ us hl => match us, hl with | [_, _, _], _ => rfl)
theorem bn_l_whole_3 (T : Txt base K mg Ad0) : Bnd K Ad0.fd_l_whole ["_law_thing", "_law_least", "_law_most"] 3 [] (fun ds _ => ds) :=
  Bnd.all (T.F_l_whole.bindsN fun _ _ _ _ _ _ us hl => match us, hl with | [_, _, _], _ => rfl)
theorem bn_l_is_span_1 (T : Txt base K mg Ad0) : Bnd K Ad0.fd_l_is_span ["_law_thing"] 1 [] (fun ds _ => ds) :=
  Bnd.all (T.F_l_is_span.bindsN fun _ _ _ _ _ _ us hl => match us, hl with | [_], _ => rfl)
theorem bn_l_is_name_1 (T : Txt base K mg Ad0) : Bnd K Ad0.fd_l_is_name ["_law_thing"] 1 [] (fun ds _ => ds) :=
  Bnd.all (T.F_l_is_name.bindsN fun _ _ _ _ _ _ us hl => match us, hl with | [_], _ => rfl)
theorem bn_l_is_take_2 (T : Txt base K mg Ad0) : Bnd K Ad0.fd_l_is_take ["_law_thing", "_law_names"] 2 [] (fun ds _ => ds) :=
  Bnd.all (T.F_l_is_take.bindsN fun _ _ _ _ _ _ us hl => match us, hl with | [_, _], _ => rfl)
theorem bn_l_is_shelf_1 (T : Txt base K mg Ad0) : Bnd K Ad0.fd_l_is_shelf ["_law_thing"] 1 [] (fun ds _ => ds) :=
  Bnd.all (T.F_l_is_shelf.bindsN fun _ _ _ _ _ _ us hl => match us, hl with | [_], _ => rfl)
theorem bn_l_is_call_2 (T : Txt base K mg Ad0) : Bnd K Ad0.fd_l_is_call ["_law_thing", "_law_names"] 2 [] (fun ds _ => ds) :=
  Bnd.all (T.F_l_is_call.bindsN fun _ _ _ _ _ _ us hl => match us, hl with | [_, _], _ => rfl)
theorem bn_p_look_at_contract_1 (T : Txt base K mg Ad0) : Bnd K Ad0.fd_p_look_at_contract ["thing"] 1 [] (fun ds _ => ds) :=
  Bnd.all (T.F_p_look_at_contract.bindsN fun _ _ _ _ _ _ us hl => match us, hl with | [_], _ => rfl)
theorem bn_l_odd_1 (T : Txt base K mg Ad0) : Bnd K Ad0.fd_l_odd ["_law_pool_here"] 1 [] (fun ds _ => ds) :=
  Bnd.all (T.F_l_odd.bindsN fun _ _ _ _ _ _ us hl => match us, hl with | [_], _ => rfl)
theorem bn_p_call_of_2 (T : Txt base K mg Ad0) : Bnd K Ad0.fd_p_call_of ["contract", "name"] 2 [] (fun ds _ => ds) :=
  Bnd.all (T.F_p_call_of.bindsN fun _ _ _ _ _ _ us hl => match us, hl with | [_, _], _ => rfl)
theorem bn_l_pool_2 (T : Txt base K mg Ad0) : Bnd K Ad0.fd_l_pool ["_law_script", "_law_k"] 2 [] (fun ds _ => ds) :=
  Bnd.all (T.F_l_pool.bindsN fun _ _ _ _ _ _ us hl => match us, hl with | [_, _], _ => rfl)
theorem bn_l_contract_1 (T : Txt base K mg Ad0) : Bnd K Ad0.fd_l_contract ["_law_pool_here"] 1 [] (fun ds _ => ds) :=
  Bnd.all (T.F_l_contract.bindsN fun _ _ _ _ _ _ us hl => match us, hl with | [_], _ => rfl)
theorem bn_l_told_1 (T : Txt base K mg Ad0) : Bnd K Ad0.fd_l_told ["_law_thing"] 1 [] (fun ds _ => ds) :=
  Bnd.all (T.F_l_told.bindsN fun _ _ _ _ _ _ us hl => match us, hl with | [_], _ => rfl)
theorem bn_l_due_1 (T : Txt base K mg Ad0) : Bnd K Ad0.fd_l_due ["_law_thing"] 1 [] (fun ds _ => ds) :=
  Bnd.all (T.F_l_due.bindsN fun _ _ _ _ _ _ us hl => match us, hl with | [_], _ => rfl)
theorem bn_l_bent_2 (T : Txt base K mg Ad0) : Bnd K Ad0.fd_l_bent ["_law_pool_here", "_law_contract_here"] 2 [] (fun ds _ => ds) :=
  Bnd.all (T.F_l_bent.bindsN fun _ _ _ _ _ _ us hl => match us, hl with | [_, _], _ => rfl)
theorem bn_l_call_right_2 (T : Txt base K mg Ad0) : Bnd K Ad0.fd_l_call_right ["_law_contract_here", "_law_name"] 2 [] (fun ds _ => ds) :=
  Bnd.all (T.F_l_call_right.bindsN fun _ _ _ _ _ _ us hl => match us, hl with | [_, _], _ => rfl)
theorem pb_p_is_whole (T : Txt base K mg Ad0) (cdv : Value) (A : Around) (outer : List Env) (s : Shared) (H : Hp) (E : XK) (hgd : A.guards = some []) (hr : Room 0 (A.deeper (PyProof.Rows.envOfC "is_whole" (defScope st_p_is_whole) s.heap.objs.size Ad0.a_p_is_whole cdv))) :
    PDB (cxOf CX0 P w K mg base ["thing"] "is_whole" (defScope st_p_is_whole) Ad0.a_p_is_whole cdv A outer s H E).nox (defBody st_p_is_whole) den_p_is_whole :=
  (pdb_one (pds_ret (pd_and (pd_callB call_isi (callD_isi (n := "int")) (by rfl) T.b_isinstance (by decide +kernel) (pda_cons (pd_var 0) (pda_cons (pd_bty (by rfl) T.b_int (by decide +kernel)) pda_nil))) (pd_one (pd_not (pd_callB call_isi (callD_isi (n := "bool")) (by rfl) T.b_isinstance (by decide +kernel) (pda_cons (pd_var 0) (pda_cons (pd_bty (by rfl) T.b_bool (by decide +kernel)) pda_nil))))))))
theorem ok_p_is_whole (T : Txt base K mg Ad0) : FnG P w K mg base CX0 1 Ad0.a_p_is_whole Ad0.fd_p_is_whole ["thing"] (FnD K sem_p_is_whole) :=
  fn_body T.F_p_is_whole sc_p_is_whole len_p_is_whole (pb_p_is_whole T) okd_p_is_whole
theorem pb_p_is_worth (T : Txt base K mg Ad0) (cdv : Value) (A : Around) (outer : List Env) (s : Shared) (H : Hp) (E : XK) (hgd : A.guards = some []) (hr : Room 1 (A.deeper (PyProof.Rows.envOfC "is_worth" (defScope st_p_is_worth) s.heap.objs.size Ad0.a_p_is_worth cdv))) :
    PDB (cxOf CX0 P w K mg base ["thing", "wide"] "is_worth" (defScope st_p_is_worth) Ad0.a_p_is_worth cdv A outer s H E).nox (defBody st_p_is_worth) den_p_is_worth :=
  (pdb_one (pds_ret (pd_and (pd_fn (ok_p_is_whole T) hgd (hr.mono (by decide)) (by rfl) T.m_p_is_whole T.F_p_is_whole.kp (bn_p_is_whole_1 T) (pda_cons (pd_var 0) pda_nil)) (pd_one (pd_chain op_le opD_le op_lt opD_lt pd_int (pd_var 0) (pd_shl pd_int (pd_var 1)) (by with_unfolding_all rfl))))))
theorem ok_p_is_worth (T : Txt base K mg Ad0) : FnG P w K mg base CX0 2 Ad0.a_p_is_worth Ad0.fd_p_is_worth ["thing", "wide"] (FnD K sem_p_is_worth) :=
  fn_body T.F_p_is_worth sc_p_is_worth len_p_is_worth (pb_p_is_worth T) okd_p_is_worth
theorem pb_p_is_name (T : Txt base K mg Ad0) (cdv : Value) (A : Around) (outer : List Env) (s : Shared) (H : Hp) (E : XK) (hgd : A.guards = some []) (hr : Room 0 (A.deeper (PyProof.Rows.envOfC "is_name" (defScope st_p_is_name) s.heap.objs.size Ad0.a_p_is_name cdv))) :
    PDB (cxOf CX0 P w K mg base ["thing", "sign"] "is_name" (defScope st_p_is_name) Ad0.a_p_is_name cdv A outer s H E).nox (defBody st_p_is_name) den_p_is_name :=
  (pdb_one (pds_ret (pd_and (pd_callB call_isi (callD_isi (n := "str")) (by rfl) T.b_isinstance (by decide +kernel) (pda_cons (pd_var 0) (pda_cons (pd_bty (by rfl) T.b_str (by decide +kernel)) pda_nil))) (pd_and (pd_chain op_le opD_le op_le opD_le pd_int (pd_callB call_len3 callD_len (by rfl) T.b_len (by decide +kernel) (pda_cons (pd_var 0) pda_nil)) (pd_conI (by rfl) T.c_LONGEST) (by with_unfolding_all rfl)) (pd_one (pd_callB (cr_all rfl) callD_all (by rfl) T.b_all (by decide +kernel) (pda_cons (pd_lc (g := (.one 1)) rfl sc_p_is_name.nd (pdi_str (pd_var 0)) (blkOk_by (N := ["thing", "sign"]) (sc := defScope st_p_is_name) (own := [("sign", 1)]) (by decide +kernel)) rfl (fun _ _ _ _ _ => (pg_name (i := 1) sc_p_is_name.nd rfl (by first | exact Or.inl rfl | exact Or.inr rfl))) (fun _ _ _ _ _ => pts_yes) (fun _ _ _ _ _ => (pd_chain op_le_str opD_leS op_le_str opD_leS pd_str (pd_var 1) pd_str (by with_unfolding_all rfl)))) pda_nil)))))))
theorem ok_p_is_name (T : Txt base K mg Ad0) : FnG P w K mg base CX0 1 Ad0.a_p_is_name Ad0.fd_p_is_name ["thing"] (FnD K sem_p_is_name) :=
  fn_body T.F_p_is_name sc_p_is_name len_p_is_name (pb_p_is_name T) okd_p_is_name
theorem pb_p_is_many (T : Txt base K mg Ad0) (cdv : Value) (A : Around) (outer : List Env) (s : Shared) (H : Hp) (E : XK) (hgd : A.guards = some []) (hr : Room 1 (A.deeper (PyProof.Rows.envOfC "is_many" (defScope st_p_is_many) s.heap.objs.size Ad0.a_p_is_many cdv))) :
    PDB (cxOf CX0 P w K mg base ["thing"] "is_many" (defScope st_p_is_many) Ad0.a_p_is_many cdv A outer s H E).nox (defBody st_p_is_many) den_p_is_many :=
  (pdb_one (pds_ret (pd_and (pd_fn (ok_p_is_whole T) hgd (hr.mono (by decide)) (by rfl) T.m_p_is_whole T.F_p_is_whole.kp (bn_p_is_whole_1 T) (pda_cons (pd_var 0) pda_nil)) (pd_one (pd_chain op_le opD_le op_le opD_le pd_int (pd_var 0) (pd_conI (by rfl) T.c_MOST_CELLS) (by with_unfolding_all rfl))))))
theorem ok_p_is_many (T : Txt base K mg Ad0) : FnG P w K mg base CX0 2 Ad0.a_p_is_many Ad0.fd_p_is_many ["thing"] (FnD K sem_p_is_many) :=
  fn_body T.F_p_is_many sc_p_is_many len_p_is_many (pb_p_is_many T) okd_p_is_many
theorem pb_p_are_bounds (T : Txt base K mg Ad0) (cdv : Value) (A : Around) (outer : List Env) (s : Shared) (H : Hp) (E : XK) (hgd : A.guards = some []) (hr : Room 2 (A.deeper (PyProof.Rows.envOfC "are_bounds" (defScope st_p_are_bounds) s.heap.objs.size Ad0.a_p_are_bounds cdv))) :
    PDB (cxOf CX0 P w K mg base ["thing"] "are_bounds" (defScope st_p_are_bounds) Ad0.a_p_are_bounds cdv A outer s H E).nox (defBody st_p_are_bounds) den_p_are_bounds :=
  (pdb_cons (pds_if (pdt_w (pdw_or (pdt_not (pdt_of (pd_callB call_isi (callD_isi (n := "tuple")) (by rfl) T.b_isinstance (by decide +kernel) (pda_cons (pd_var 0) (pda_cons (pd_bty (by rfl) T.b_tuple (by decide +kernel)) pda_nil))))) (pdw_or (pdt_cmp (opR_or op_ne (op_neD hr.units)) opD_ne (pd_callB call_len3 callD_len (by rfl) T.b_len (by decide +kernel) (pda_cons (pd_var 0) pda_nil)) pd_int (nomark _)) (pdw_one_or (pdt_cmp (opR_or op_ne (op_neD hr.units)) opD_ne (pd_ix (hu_of hr) (pd_var 0) pd_int (fun _ _ => rfl)) pd_str (nomark _)))))) (pdb_one (pds_ret pd_bl)) pdb_nil)
    (pdb_one (pds_ret (pd_and (pd_fn (ok_p_is_worth T) hgd (hr.mono (by decide)) (by rfl) T.m_p_is_worth T.F_p_is_worth.kp (bn_p_is_worth_1 T) (pda_cons (pd_ix (hu_of hr) (pd_var 0) pd_int (fun _ _ => rfl)) pda_nil)) (pd_and (pd_fn (ok_p_is_worth T) hgd (hr.mono (by decide)) (by rfl) T.m_p_is_worth T.F_p_is_worth.kp (bn_p_is_worth_1 T) (pda_cons (pd_ix (hu_of hr) (pd_var 0) pd_int (fun _ _ => rfl)) pda_nil)) (pd_one (pd_le (pd_ix (hu_of hr) (pd_var 0) pd_int (fun _ _ => rfl)) (pd_ix (hu_of hr) (pd_var 0) pd_int (fun _ _ => rfl)))))))))
theorem ok_p_are_bounds (T : Txt base K mg Ad0) : FnG P w K mg base CX0 3 Ad0.a_p_are_bounds Ad0.fd_p_are_bounds ["thing"] (FnD K sem_p_are_bounds) :=
  fn_body T.F_p_are_bounds sc_p_are_bounds len_p_are_bounds (pb_p_are_bounds T) okd_p_are_bounds
theorem pb_p_is_of_shelf (T : Txt base K mg Ad0) (cdv : Value) (A : Around) (outer : List Env) (s : Shared) (H : Hp) (E : XK) (hgd : A.guards = some []) (hr : Room 1 (A.deeper (PyProof.Rows.envOfC "is_of_shelf" (defScope st_p_is_of_shelf) s.heap.objs.size Ad0.a_p_is_of_shelf cdv))) :
    PDB (cxOf CX0 P w K mg base ["thing", "word", "sizes"] "is_of_shelf" (defScope st_p_is_of_shelf) Ad0.a_p_is_of_shelf cdv A outer s H E).nox (defBody st_p_is_of_shelf) den_p_is_of_shelf :=
  (pdb_cons (pds_if (pdt_w (pdw_or (pdt_not (pdt_of (pd_callB call_isi (callD_isi (n := "tuple")) (by rfl) T.b_isinstance (by decide +kernel) (pda_cons (pd_var 0) (pda_cons (pd_bty (by rfl) T.b_tuple (by decide +kernel)) pda_nil))))) (pdw_or (pdt_cmp (opR_or op_ne (op_neD hr.units)) opD_ne (pd_callB call_len3 callD_len (by rfl) T.b_len (by decide +kernel) (pda_cons (pd_var 0) pda_nil)) pd_int (nomark _)) (pdw_one_or (pdt_cmp (opR_or op_ne (op_neD hr.units)) opD_ne (pd_ix (hu_of hr) (pd_var 0) pd_int (fun _ _ => rfl)) (pd_var 1) (nomark _)))))) (pdb_one (pds_ret pd_bl)) pdb_nil)
    (pdb_one (pds_ret (pd_and (pd_fn (ok_p_is_name T) hgd (hr.mono (by decide)) (by rfl) T.m_p_is_name T.F_p_is_name.kp (bn_p_is_name_1 T) (pda_cons (pd_ix (hu_of hr) (pd_var 0) pd_int (fun _ _ => rfl)) pda_nil)) (pd_one (pd_cmp (op_inR hr.units) opD_inF (pd_ix (hu_of hr) (pd_var 0) pd_int (fun _ _ => rfl)) (pd_var 2) (by with_unfolding_all rfl)))))))
theorem ok_p_is_of_shelf (T : Txt base K mg Ad0) : FnG P w K mg base CX0 2 Ad0.a_p_is_of_shelf Ad0.fd_p_is_of_shelf ["thing", "word", "sizes"] (FnD K sem_p_is_of_shelf) :=
  fn_body T.F_p_is_of_shelf sc_p_is_of_shelf len_p_is_of_shelf (pb_p_is_of_shelf T) okd_p_is_of_shelf
theorem pb_p_is_take (T : Txt base K mg Ad0) (cdv : Value) (A : Around) (outer : List Env) (s : Shared) (H : Hp) (E : XK) (hgd : A.guards = some []) (hr : Room 3 (A.deeper (PyProof.Rows.envOfC "is_take" (defScope st_p_is_take) s.heap.objs.size Ad0.a_p_is_take cdv))) :
    PDB (cxOf CX0 P w K mg base ["thing", "sizes"] "is_take" (defScope st_p_is_take) Ad0.a_p_is_take cdv A outer s H E).nox (defBody st_p_is_take) den_p_is_take :=
  (pdb_cons (pds_if (pdt_w (pdw_or (pdt_of (pd_fn (ok_p_are_bounds T) hgd (hr.mono (by decide)) (by rfl) T.m_p_are_bounds T.F_p_are_bounds.kp (bn_p_are_bounds_1 T) (pda_cons (pd_var 0) pda_nil))) (pdw_one_or (pdt_of (pd_fn (ok_p_is_of_shelf T) hgd (hr.mono (by decide)) (by rfl) T.m_p_is_of_shelf T.F_p_is_of_shelf.kp (bn_p_is_of_shelf_3 T) (pda_cons (pd_var 0) (pda_cons pd_str (pda_cons (pd_var 1) pda_nil)))))))) (pdb_one (pds_ret pd_bl)) pdb_nil)
    (pdb_one (pds_ret (pd_and (pd_callB call_isi (callD_isi (n := "tuple")) (by rfl) T.b_isinstance (by decide +kernel) (pda_cons (pd_var 0) (pda_cons (pd_bty (by rfl) T.b_tuple (by decide +kernel)) pda_nil))) (pd_and (pd_eq hr.units (pd_callB call_len3 callD_len (by rfl) T.b_len (by decide +kernel) (pda_cons (pd_var 0) pda_nil)) pd_int) (pd_and (pd_eq hr.units (pd_ix (hu_of hr) (pd_var 0) pd_int (fun _ _ => rfl)) pd_str) (pd_one (pd_fn (ok_p_is_many T) hgd (hr.mono (by decide)) (by rfl) T.m_p_is_many T.F_p_is_many.kp (bn_p_is_many_1 T) (pda_cons (pd_ix (hu_of hr) (pd_var 0) pd_int (fun _ _ => rfl)) pda_nil)))))))))
theorem ok_p_is_take (T : Txt base K mg Ad0) : FnG P w K mg base CX0 4 Ad0.a_p_is_take Ad0.fd_p_is_take ["thing", "sizes"] (FnD K sem_p_is_take) :=
  fn_body T.F_p_is_take sc_p_is_take len_p_is_take (pb_p_is_take T) okd_p_is_take
theorem pb_p_is_given (T : Txt base K mg Ad0) (cdv : Value) (A : Around) (outer : List Env) (s : Shared) (H : Hp) (E : XK) (hgd : A.guards = some []) (hr : Room 3 (A.deeper (PyProof.Rows.envOfC "is_given" (defScope st_p_is_given) s.heap.objs.size Ad0.a_p_is_given cdv))) :
    PDB (cxOf CX0 P w K mg base ["thing", "takes", "sizes", "take"] "is_given" (defScope st_p_is_given) Ad0.a_p_is_given cdv A outer s H E).nox (defBody st_p_is_given) den_p_is_given :=
  (pdb_cons (pds_if (pdt_cmp (opR_or (opR_or op_eq (op_eqD hr.units)) (op_eqW hr.units)) opD_eqW (pd_var 0) (pd_tup (pda_cons pd_str pda_nil)) (nomark _)) (pdb_one (pds_ret (pd_and (pd_eq hr.units (pd_count (pd_lc (g := (.one 3)) rfl sc_p_is_given.nd (pdi_tup (pd_var 1)) (blkOk_by (N := ["thing", "takes", "sizes", "take"]) (sc := defScope st_p_is_given) (own := [("take", 3)]) (by decide +kernel)) rfl (fun _ _ _ _ _ => (pg_name (i := 3) sc_p_is_given.nd rfl (by first | exact Or.inl rfl | exact Or.inr rfl))) (fun _ _ _ _ _ => pts_yes) (fun _ _ _ _ _ => (pd_ix (hu_of hr) (pd_var 3) pd_int (fun _ _ => rfl)))) pd_str) pd_int) (pd_one (pd_eq hr.units (pd_ix (hu_of hr) (pd_ix (hu_of hr) (pd_var 1) pd_int (fun _ _ => rfl)) pd_int (fun _ _ => rfl)) pd_str))))) pdb_nil)
    (pdb_cons (pds_if (pdt_of (pd_fn (ok_p_is_of_shelf T) hgd (hr.mono (by decide)) (by rfl) T.m_p_is_of_shelf T.F_p_is_of_shelf.kp (bn_p_is_of_shelf_3 T) (pda_cons (pd_var 0) (pda_cons pd_str (pda_cons (pd_var 2) pda_nil))))) (pdb_one (pds_ret (pd_and (pd_neNil hr.units (pd_var 1) (pd_tup pda_nil)) (pd_one (pd_eq hr.units (pd_ix (hu_of hr) (pd_ix (hu_of hr) (pd_var 1) pd_int (fun _ _ => rfl)) pd_int (fun _ _ => rfl)) pd_str))))) pdb_nil)
    (pdb_one (pds_ret (pd_fn (ok_p_are_bounds T) hgd (hr.mono (by decide)) (by rfl) T.m_p_are_bounds T.F_p_are_bounds.kp (bn_p_are_bounds_1 T) (pda_cons (pd_var 0) pda_nil))))))
theorem ok_p_is_given (T : Txt base K mg Ad0) : FnG P w K mg base CX0 4 Ad0.a_p_is_given Ad0.fd_p_is_given ["thing", "takes", "sizes"] (FnD K sem_p_is_given) :=
  fn_body T.F_p_is_given sc_p_is_given len_p_is_given (pb_p_is_given T) okd_p_is_given
theorem pb_p_is_shelf (T : Txt base K mg Ad0) (cdv : Value) (A : Around) (outer : List Env) (s : Shared) (H : Hp) (E : XK) (hgd : A.guards = some []) (hr : Room 2 (A.deeper (PyProof.Rows.envOfC "is_shelf" (defScope st_p_is_shelf) s.heap.objs.size Ad0.a_p_is_shelf cdv))) :
    PDB (cxOf CX0 P w K mg base ["thing"] "is_shelf" (defScope st_p_is_shelf) Ad0.a_p_is_shelf cdv A outer s H E).nox (defBody st_p_is_shelf) den_p_is_shelf :=
  (pdb_one (pds_ret (pd_and (pd_callB call_isi (callD_isi (n := "tuple")) (by rfl) T.b_isinstance (by decide +kernel) (pda_cons (pd_var 0) (pda_cons (pd_bty (by rfl) T.b_tuple (by decide +kernel)) pda_nil))) (pd_and (pd_eq hr.units (pd_callB call_len3 callD_len (by rfl) T.b_len (by decide +kernel) (pda_cons (pd_var 0) pda_nil)) pd_int) (pd_and (pd_fn (ok_p_is_name T) hgd (hr.mono (by decide)) (by rfl) T.m_p_is_name T.F_p_is_name.kp (bn_p_is_name_1 T) (pda_cons (pd_ix (hu_of hr) (pd_var 0) pd_int (fun _ _ => rfl)) pda_nil)) (pd_one (pd_fn (ok_p_is_many T) hgd (hr.mono (by decide)) (by rfl) T.m_p_is_many T.F_p_is_many.kp (bn_p_is_many_1 T) (pda_cons (pd_ix (hu_of hr) (pd_var 0) pd_int (fun _ _ => rfl)) pda_nil))))))))
theorem ok_p_is_shelf (T : Txt base K mg Ad0) : FnG P w K mg base CX0 3 Ad0.a_p_is_shelf Ad0.fd_p_is_shelf ["thing"] (FnD K sem_p_is_shelf) :=
  fn_body T.F_p_is_shelf sc_p_is_shelf len_p_is_shelf (pb_p_is_shelf T) okd_p_is_shelf
theorem pb_p_is_call (T : Txt base K mg Ad0) (cdv : Value) (A : Around) (outer : List Env) (s : Shared) (H : Hp) (E : XK) (hgd : A.guards = some []) (hr : Room 4 (A.deeper (PyProof.Rows.envOfC "is_call" (defScope st_p_is_call) s.heap.objs.size Ad0.a_p_is_call cdv))) :
    PDB (cxOf CX0 P w K mg base ["thing", "sizes", "take"] "is_call" (defScope st_p_is_call) Ad0.a_p_is_call cdv A outer s H E).nox (defBody st_p_is_call) den_p_is_call :=
  (pdb_cons (pds_if (pdt_w (pdw_or (pdt_not (pdt_of (pd_callB call_isi (callD_isi (n := "tuple")) (by rfl) T.b_isinstance (by decide +kernel) (pda_cons (pd_var 0) (pda_cons (pd_bty (by rfl) T.b_tuple (by decide +kernel)) pda_nil))))) (pdw_or (pdt_cmp (opR_or op_ne (op_neD hr.units)) opD_ne (pd_callB call_len3 callD_len (by rfl) T.b_len (by decide +kernel) (pda_cons (pd_var 0) pda_nil)) pd_int (nomark _)) (pdw_one_or (pdt_not (pdt_of (pd_fn (ok_p_is_name T) hgd (hr.mono (by decide)) (by rfl) T.m_p_is_name T.F_p_is_name.kp (bn_p_is_name_1 T) (pda_cons (pd_ix (hu_of hr) (pd_var 0) pd_int (fun _ _ => rfl)) pda_nil)))))))) (pdb_one (pds_ret pd_bl)) pdb_nil)
    (pdb_cons (pds_if (pdt_w (pdw_or (pdt_not (pdt_of (pd_callB call_isi (callD_isi (n := "tuple")) (by rfl) T.b_isinstance (by decide +kernel) (pda_cons (pd_ix (hu_of hr) (pd_var 0) pd_int (fun _ _ => rfl)) (pda_cons (pd_bty (by rfl) T.b_tuple (by decide +kernel)) pda_nil))))) (pdw_one_or (pdt_cmp op_gt opD_gt (pd_callB call_len3 callD_len (by rfl) T.b_len (by decide +kernel) (pda_cons (pd_ix (hu_of hr) (pd_var 0) pd_int (fun _ _ => rfl)) pda_nil)) (pd_conI (by rfl) T.c_MOST_TAKES) (nomark _))))) (pdb_one (pds_ret pd_bl)) pdb_nil)
    (pdb_one (pds_ret (pd_and (pd_callB (cr_all rfl) callD_all (by rfl) T.b_all (by decide +kernel) (pda_cons (pd_lc (g := (.one 2)) rfl sc_p_is_call.nd (pdi_tup (pd_ix (hu_of hr) (pd_var 0) pd_int (fun _ _ => rfl))) (blkOk_by (N := ["thing", "sizes", "take"]) (sc := defScope st_p_is_call) (own := [("take", 2)]) (by decide +kernel)) rfl (fun _ _ _ _ _ => (pg_name (i := 2) sc_p_is_call.nd rfl (by first | exact Or.inl rfl | exact Or.inr rfl))) (fun _ _ _ _ _ => pts_yes) (fun _ _ _ _ _ => (pd_fn (ok_p_is_take T) hgd (hr.mono (by decide)) (by rfl) T.m_p_is_take T.F_p_is_take.kp (bn_p_is_take_2 T) (pda_cons (pd_var 2) (pda_cons (pd_var 1) pda_nil))))) pda_nil)) (pd_one (pd_fn (ok_p_is_given T) hgd (hr.mono (by decide)) (by rfl) T.m_p_is_given T.F_p_is_given.kp (bn_p_is_given_3 T) (pda_cons (pd_ix (hu_of hr) (pd_var 0) pd_int (fun _ _ => rfl)) (pda_cons (pd_ix (hu_of hr) (pd_var 0) pd_int (fun _ _ => rfl)) (pda_cons (pd_var 1) pda_nil))))))))))
theorem ok_p_is_call (T : Txt base K mg Ad0) : FnG P w K mg base CX0 5 Ad0.a_p_is_call Ad0.fd_p_is_call ["thing", "sizes"] (FnD K sem_p_is_call) :=
  fn_body T.F_p_is_call sc_p_is_call len_p_is_call (pb_p_is_call T) okd_p_is_call
theorem fs_ok_p_look_at_part_fits (T : Txt base K mg Ad0) (X : Cx) (hP : X.prog = P) (hw : X.w = w) (hK : X.K = K) (hm : X.mg = mg) (hb : X.base = base) : HeldD X 3 1 fs_p_look_at_part_fits := by
  intro x sem a e hc
  rw [hK] at hc
  rw [hP, hw, hK, hm, hb]
  unfold fs_p_look_at_part_fits at e
  by_cases h : x = "is_shelf"
  · rw [if_pos h] at e; cases e; subst h; have e2 := hc.symm.trans T.nf_p_is_shelf; cases e2; exact ⟨_, _, (ok_p_is_shelf T).mono (by decide), T.F_p_is_shelf.kp, bn_p_is_shelf_1 T⟩
  rw [if_neg h] at e
  cases e
theorem pb_p_look_at_part_L (T : Txt base K mg Ad0) (cl : List (Str × Addr)) (c' : Addr) (ws : List V) (cdv : Value) (A : Around) (outer : List Env) (s : Shared) (H : Hp) (E : XK) (hgd : A.guards = some []) (hr : Room 6 (A.deeper (PyProof.Rows.envOfC "look_at_part" (defScope st_p_look_at_part) s.heap.objs.size Ad0.a_p_look_at_part cdv))) (hL : LamHere (cxOf (L2.CX P w) P w K mg base ["part", "thing", "most", "fits", "ahead", "number", "one"] "look_at_part" (defScope st_p_look_at_part) Ad0.a_p_look_at_part cdv A outer s H E) ⟨"look_at_contract.<locals>.<lambda>", lamP lam_e, lamB lam_e, lamS lam_e, cl, c'⟩ (["sizes"] : List Str) ws) :
    PDB (cxOf (L2.CX P w) P w K mg base ["part", "thing", "most", "fits", "ahead", "number", "one"] "look_at_part" (defScope st_p_look_at_part) Ad0.a_p_look_at_part cdv A outer s H E) (defBody st_p_look_at_part) (den_p_look_at_part_L ⟨"look_at_contract.<locals>.<lambda>", lamP lam_e, lamB lam_e, lamS lam_e, cl, c'⟩ ws) :=
  (pdb_cons (pds_if (pdt_w (pdw_or (pdt_not (pdt_of (pd_callB call_isi (callD_isi (n := "list")) (by rfl) T.b_isinstance (by decide +kernel) (pda_cons (pd_var 1) (pda_cons (pd_bty (by rfl) T.b_list (by decide +kernel)) pda_nil))))) (pdw_one_or (pdt_cmp op_gt opD_gt (pd_callB call_len3 callD_len (by rfl) T.b_len (by decide +kernel) (pda_cons (pd_var 1) pda_nil)) (pd_var 2) (nomark _))))) (pdb_one (pds_raiseF rfl (exf_NoContract T) (hr.mono (by decide)) (by rfl) (pda_cons (pd_var 0) (pda_cons pd_non pda_nil)))) pdb_nil)
    (pdb_cons (pds_set (i := 4) sc_p_look_at_part.nd rfl (by first | exact Or.inl rfl | exact Or.inr rfl) (pd_lstC pda_nil))
    (pdb_one (pds_for (passes_of rfl) rfl (pdi_enum (by rfl) T.b_enumerate (pda_cons (pd_var 1) pda_nil)) (pdg_tup rfl (pdgs_cons (pdg_name (i := 5) sc_p_look_at_part.nd rfl (by first | exact Or.inl rfl | exact Or.inr rfl)) (pdgs_cons (pdg_name (i := 6) sc_p_look_at_part.nd rfl (by first | exact Or.inl rfl | exact Or.inr rfl)) pdgs_nil))) (pdb_cons (pds_if (pdt_w (pdw_or (pdt_not (pdt_of (pd_callL (k := 5) 3 hL hgd (hr.mono (by decide)) lam_sc rfl lam_bind (fun A outer s H f hgd hr => (pd_fn (ok_p_is_call T) hgd (hr.mono (by decide)) (by rfl) T.m_p_is_call T.F_p_is_call.kp (bn_p_is_call_2 T) (pda_cons (pd_var 0) (pda_cons (pd_var 1) pda_nil)))) (pda_cons (pd_var 6) pda_nil)))) (pdw_one_or (pdt_cmp op_in_seq opD_inL (pd_ix (hu_of hr) (pd_var 6) pd_int (fun _ _ => rfl)) (pd_var 4) (by with_unfolding_all rfl))))) (pdb_one (pds_raiseF rfl (exf_NoContract T) (hr.mono (by decide)) (by rfl) (pda_cons (pd_var 0) (pda_cons (pd_var 5) pda_nil)))) pdb_nil)
    (pdb_one (pds_expr (pd_append (pd_var 4) (pd_ix (hu_of hr) (pd_var 6) pd_int (fun _ _ => rfl))))))))))
theorem okL_p_look_at_part (T : Txt base K mg Ad0) (cl : List (Str × Addr)) (c' : Addr) (ws : List V) : FnGL P w K mg base (L2.CX P w) 7 Ad0.a_p_look_at_part Ad0.fd_p_look_at_part ["part", "thing", "most", "fits"] cl (["sizes"] : List Str) ws (FnDX K mg (sem_p_look_at_part_L ⟨"look_at_contract.<locals>.<lambda>", lamP lam_e, lamB lam_e, lamS lam_e, cl, c'⟩ ws)) :=
  fn_bodyXL (Fl := ⟨"look_at_contract.<locals>.<lambda>", lamP lam_e, lamB lam_e, lamS lam_e, cl, c'⟩) T.F_p_look_at_part sc_p_look_at_part (len_p_look_at_part_L _ _) (fun cdv A outer s H E hgd hr hL => pb_p_look_at_part_L T cl c' ws cdv A outer s H E hgd hr hL) (okd_p_look_at_part_L _ _)
theorem pb_p_look_at_part (T : Txt base K mg Ad0) (cdv : Value) (A : Around) (outer : List Env) (s : Shared) (H : Hp) (E : XK) (hgd : A.guards = some []) (hr : Room 6 (A.deeper (PyProof.Rows.envOfC "look_at_part" (defScope st_p_look_at_part) s.heap.objs.size Ad0.a_p_look_at_part cdv))) :
    PDB (cxOf (L2.CX P w) P w K mg base ["part", "thing", "most", "fits", "ahead", "number", "one"] "look_at_part" (defScope st_p_look_at_part) Ad0.a_p_look_at_part cdv A outer s H E) (defBody st_p_look_at_part) den_p_look_at_part :=
  (pdb_cons (pds_if (pdt_w (pdw_or (pdt_not (pdt_of (pd_callB call_isi (callD_isi (n := "list")) (by rfl) T.b_isinstance (by decide +kernel) (pda_cons (pd_var 1) (pda_cons (pd_bty (by rfl) T.b_list (by decide +kernel)) pda_nil))))) (pdw_one_or (pdt_cmp op_gt opD_gt (pd_callB call_len3 callD_len (by rfl) T.b_len (by decide +kernel) (pda_cons (pd_var 1) pda_nil)) (pd_var 2) (nomark _))))) (pdb_one (pds_raiseF rfl (exf_NoContract T) (hr.mono (by decide)) (by rfl) (pda_cons (pd_var 0) (pda_cons pd_non pda_nil)))) pdb_nil)
    (pdb_cons (pds_set (i := 4) sc_p_look_at_part.nd rfl (by first | exact Or.inl rfl | exact Or.inr rfl) (pd_lstC pda_nil))
    (pdb_one (pds_for (passes_of rfl) rfl (pdi_enum (by rfl) T.b_enumerate (pda_cons (pd_var 1) pda_nil)) (pdg_tup rfl (pdgs_cons (pdg_name (i := 5) sc_p_look_at_part.nd rfl (by first | exact Or.inl rfl | exact Or.inr rfl)) (pdgs_cons (pdg_name (i := 6) sc_p_look_at_part.nd rfl (by first | exact Or.inl rfl | exact Or.inr rfl)) pdgs_nil))) (pdb_cons (pds_if (pdt_w (pdw_or (pdt_not (pdt_of (pd_callV 3 (fs_ok_p_look_at_part_fits T _ rfl rfl rfl rfl rfl) hgd (hr.mono (by decide)) (pda_cons (pd_var 6) pda_nil)))) (pdw_one_or (pdt_cmp op_in_seq opD_inL (pd_ix (hu_of hr) (pd_var 6) pd_int (fun _ _ => rfl)) (pd_var 4) (by with_unfolding_all rfl))))) (pdb_one (pds_raiseF rfl (exf_NoContract T) (hr.mono (by decide)) (by rfl) (pda_cons (pd_var 0) (pda_cons (pd_var 5) pda_nil)))) pdb_nil)
    (pdb_one (pds_expr (pd_append (pd_var 4) (pd_ix (hu_of hr) (pd_var 6) pd_int (fun _ _ => rfl))))))))))
theorem ok_p_look_at_part (T : Txt base K mg Ad0) : FnG P w K mg base (L2.CX P w) 7 Ad0.a_p_look_at_part Ad0.fd_p_look_at_part ["part", "thing", "most", "fits"] (FnDX K mg sem_p_look_at_part) :=
  fn_bodyX T.F_p_look_at_part sc_p_look_at_part len_p_look_at_part (pb_p_look_at_part T) okd_p_look_at_part
theorem pb_p_look_at_contract (T : Txt base K mg Ad0) (A : Around) (outer : List Env) (s : Shared) (H : Hp) (E : XK) (hgd : A.guards = some []) (hr : Room 7 (A.deeper (PyProof.Rows.envOfC "look_at_contract" (defScope st_p_look_at_contract) s.heap.objs.size Ad0.a_p_look_at_contract (.ref Ad0.tc)))) :
    PDB (cxOf (L2.CX P w) P w K mg base ["thing", "shelves", "calls", "sizes"] "look_at_contract" (defScope st_p_look_at_contract) Ad0.a_p_look_at_contract (.ref Ad0.tc) A outer s H E) (defBody st_p_look_at_contract) den_p_look_at_contract :=
  (pdb_cons (pds_if (pdt_w (pdw_or (pdt_not (pdt_of (pd_callB call_isi (callD_isi (n := "tuple")) (by rfl) T.b_isinstance (by decide +kernel) (pda_cons (pd_var 0) (pda_cons (pd_bty (by rfl) T.b_tuple (by decide +kernel)) pda_nil))))) (pdw_one_or (pdt_cmp (opR_or op_ne (op_neD hr.units)) opD_ne (pd_callB call_len3 callD_len (by rfl) T.b_len (by decide +kernel) (pda_cons (pd_var 0) pda_nil)) pd_int (nomark _))))) (pdb_one (pds_raiseF rfl (exf_NoContract T) (hr.mono (by decide)) (by rfl) (pda_cons pd_non (pda_cons pd_non pda_nil)))) pdb_nil)
    (pdb_cons (pds_asg (pd_var 0) (pdg_tup rfl (pdgs_cons (pdg_name (i := 1) sc_p_look_at_contract.nd rfl (by first | exact Or.inl rfl | exact Or.inr rfl)) (pdgs_cons (pdg_name (i := 2) sc_p_look_at_contract.nd rfl (by first | exact Or.inl rfl | exact Or.inr rfl)) pdgs_nil))))
    (pdb_cons (pds_exprX (pdx_fn (ok_p_look_at_part T) hgd (hr.mono (by decide)) (by rfl) T.m_p_look_at_part T.F_p_look_at_part.kp (bn_p_look_at_part_4 T) (pda_cons pd_str (pda_cons (pd_var 1) (pda_cons (pd_conI (by rfl) T.c_MOST_SHELVES) (pda_cons (pd_fnv (by rfl) T.m_p_is_shelf T.nf_p_is_shelf) pda_nil))))))
    (pdb_cons (pds_set (i := 3) sc_p_look_at_contract.nd rfl (by first | exact Or.inl rfl | exact Or.inr rfl) (pd_callTy (cr_dictP rfl) callD_dictP (by rfl) T.b_dict (by decide +kernel) (pda_cons (pd_var 1) pda_nil)))
    (pdb_one (pds_exprX (pdx_fnL (js := [3]) (okL_p_look_at_part T) hgd (hr.mono (by decide)) (by rfl) T.m_p_look_at_part T.F_p_look_at_part.kp (bn_p_look_at_part_4 T) T.TK lam_free lam_fr rfl (pal_cons pd_str (pal_cons (pd_var 2) (pal_cons (pd_conI (by rfl) T.c_MOST_CALLS) (pal_nil (pe_lam T.TB rfl lam_q rfl lam_free))))))))))))
theorem ok_p_look_at_contract (T : Txt base K mg Ad0) : FnG P w K mg base (L2.CX P w) 8 Ad0.a_p_look_at_contract Ad0.fd_p_look_at_contract ["thing"] (FnDX K mg sem_p_look_at_contract) :=
  fn_bodyXC T.F_p_look_at_contract T.fdC sc_p_look_at_contract len_p_look_at_contract (pb_p_look_at_contract T) okd_p_look_at_contract
theorem pb_p_call_of (T : Txt base K mg Ad0) (cdv : Value) (A : Around) (outer : List Env) (s : Shared) (H : Hp) (E : XK) (hgd : A.guards = some []) (hr : Room 2 (A.deeper (PyProof.Rows.envOfC "call_of" (defScope st_p_call_of) s.heap.objs.size Ad0.a_p_call_of cdv))) :
    PDB (cxOf (L2.CX P w) P w K mg base ["contract", "name", "own", "takes", "gives"] "call_of" (defScope st_p_call_of) Ad0.a_p_call_of cdv A outer s H E) (defBody st_p_call_of) den_p_call_of :=
  (pdb_cons (pds_for (passes_of rfl) rfl (pdi_list (pd_ix (hu_of hr) (pd_var 0) pd_int (fun _ _ => rfl))) (pdg_tup rfl (pdgs_cons (pdg_name (i := 2) sc_p_call_of.nd rfl (by first | exact Or.inl rfl | exact Or.inr rfl)) (pdgs_cons (pdg_name (i := 3) sc_p_call_of.nd rfl (by first | exact Or.inl rfl | exact Or.inr rfl)) (pdgs_cons (pdg_name (i := 4) sc_p_call_of.nd rfl (by first | exact Or.inl rfl | exact Or.inr rfl)) pdgs_nil)))) (pdb_one (pds_if (pdt_cmp (opR_or (opR_or op_eq (op_eqD hr.units)) (op_eqW hr.units)) opD_eqW (pd_var 2) (pd_var 1) (nomark _)) (pdb_one (pds_ret (pd_tup (pda_cons (pd_var 3) (pda_cons (pd_var 4) pda_nil))))) pdb_nil)))
    (pdb_one (pds_raiseK rfl (exf_NoCall T) (hr.mono (by decide)) (by rfl) (pda_cons (pd_var 1) pda_nil))))
theorem ok_p_call_of (T : Txt base K mg Ad0) : FnG P w K mg base (L2.CX P w) 3 Ad0.a_p_call_of Ad0.fd_p_call_of ["contract", "name"] (FnDX K mg sem_p_call_of) :=
  fn_bodyX T.F_p_call_of sc_p_call_of len_p_call_of (pb_p_call_of T) okd_p_call_of
theorem pb_l_pool (T : Txt base K mg Ad0) (cdv : Value) (A : Around) (outer : List Env) (s : Shared) (H : Hp) (E : XK) (hgd : A.guards = some []) (hr : Room 0 (A.deeper (PyProof.Rows.envOfC "_law_pool" (defScope st_l_pool) s.heap.objs.size Ad0.a_l_pool cdv))) :
    PDB (cxOf CX0 P w K mg base ["_law_script", "_law_k", "_law_cell", "_law_great", "_law_mixed"] "_law_pool" (defScope st_l_pool) Ad0.a_l_pool cdv A outer s H E).nox (defBody st_l_pool) den_l_pool :=
  (pdb_cons (pds_set (i := 2) sc_l_pool.nd rfl (by first | exact Or.inl rfl | exact Or.inr rfl) (pd_add (pd_mul pd_int (pd_callB (cr_sum rfl) callD_sum (by rfl) T.b_sum (by decide +kernel) (pda_cons (pd_slice (pd_var 0) pdo_none (pdo_some pd_int)) pda_nil))) (pd_var 1)))
    (pdb_cons (pds_if (pdt_cmp op_lt opD_lt (pd_var 1) (pd_callB call_len3 callD_len (by rfl) T.b_len (by decide +kernel) (pda_cons (pd_var 0) pda_nil)) (nomark _)) (pdb_one (pds_set (i := 2) sc_l_pool.nd rfl (by first | exact Or.inl rfl | exact Or.inr rfl) (pd_ix (hu_of hr) (pd_var 0) (pd_var 1) (fun _ _ => rfl)))) pdb_nil)
    (pdb_cons (pds_set (i := 3) sc_l_pool.nd rfl (by first | exact Or.inl rfl | exact Or.inr rfl) (pd_callB call_abs callD_abs (by rfl) T.b_abs (by decide +kernel) (pda_cons (pd_var 2) pda_nil)))
    (pdb_cons (pds_set (i := 4) sc_l_pool.nd rfl (by first | exact Or.inl rfl | exact Or.inr rfl) (pd_mod (pd_mul (pd_add (pd_add (pd_add (pd_mod (pd_var 3) pd_int) (pd_mul (pd_mul pd_int (pd_var 1)) (pd_var 1))) (pd_mul pd_int (pd_var 1))) pd_int) pd_int) pd_int))
    (pdb_one (pds_ret (pd_lstC (pda_cons (pd_mul (pd_var 3) (pd_callTy call_int1 callD_int (by rfl) T.b_int (by decide +kernel) (pda_cons (pd_ge (pd_var 3) (pd_pow pd_int pd_int)) pda_nil))) (pda_cons (pd_mod (pd_mul (pd_var 4) (pd_var 4)) pd_int) pda_nil)))))))))
theorem ok_l_pool (T : Txt base K mg Ad0) : FnG P w K mg base CX0 1 Ad0.a_l_pool Ad0.fd_l_pool ["_law_script", "_law_k"] (FnD K sem_l_pool) :=
  fn_body T.F_l_pool sc_l_pool len_l_pool (pb_l_pool T) okd_l_pool
theorem pb_l_take (T : Txt base K mg Ad0) (cdv : Value) (A : Around) (outer : List Env) (s : Shared) (H : Hp) (E : XK) (hgd : A.guards = some []) (hr : Room 0 (A.deeper (PyProof.Rows.envOfC "_law_take" (defScope st_l_take) s.heap.objs.size Ad0.a_l_take cdv))) :
    PDB (cxOf CX0 P w K mg base ["_law_pool_here", "_law_many", "_law_found"] "_law_take" (defScope st_l_take) Ad0.a_l_take cdv A outer s H E).nox (defBody st_l_take) den_l_take :=
  (pdb_cons (pds_if (pdt_cmp op_gt opD_gt (pd_ix (hu_of hr) (pd_var 0) pd_int (fun _ _ => rfl)) pd_int (nomark _)) (pdb_cons (pds_set (i := 2) sc_l_take.nd rfl (by first | exact Or.inl rfl | exact Or.inr rfl) (pd_mod (pd_ix (hu_of hr) (pd_var 0) pd_int (fun _ _ => rfl)) (pd_var 1)))
    (pdb_cons (pds_asg (pd_div (pd_ix (hu_of hr) (pd_var 0) pd_int (fun _ _ => rfl)) (pd_var 1)) (pdg_ix (pd_var 0) pd_int))
    (pdb_one (pds_ret (pd_var 2))))) pdb_nil)
    (pdb_cons (pds_asg (pd_mod (pd_add (pd_mul (pd_ix (hu_of hr) (pd_var 0) pd_int (fun _ _ => rfl)) pd_int) pd_int) pd_int) (pdg_ix (pd_var 0) pd_int))
    (pdb_one (pds_ret (pd_mod (pd_div (pd_mod (pd_mul (pd_ix (hu_of hr) (pd_var 0) pd_int (fun _ _ => rfl)) (pd_ix (hu_of hr) (pd_var 0) pd_int (fun _ _ => rfl))) pd_int) pd_int) (pd_var 1))))))
theorem ok_l_take (T : Txt base K mg Ad0) : FnG P w K mg base CX0 1 Ad0.a_l_take Ad0.fd_l_take ["_law_pool_here", "_law_many"] (FnD K sem_l_take) :=
  fn_body T.F_l_take sc_l_take len_l_take (pb_l_take T) okd_l_take
theorem pb_l_bounds (T : Txt base K mg Ad0) (cdv : Value) (A : Around) (outer : List Env) (s : Shared) (H : Hp) (E : XK) (hgd : A.guards = some []) (hr : Room 1 (A.deeper (PyProof.Rows.envOfC "_law_bounds" (defScope st_l_bounds) s.heap.objs.size Ad0.a_l_bounds cdv))) :
    PDB (cxOf CX0 P w K mg base ["_law_pool_here", "_law_least"] "_law_bounds" (defScope st_l_bounds) Ad0.a_l_bounds cdv A outer s H E).nox (defBody st_l_bounds) den_l_bounds :=
  (pdb_cons (pds_set (i := 1) sc_l_bounds.nd rfl (by first | exact Or.inl rfl | exact Or.inr rfl) (pd_ix (hu_of hr) (pd_lst (pda_cons pd_int (pda_cons pd_int (pda_cons pd_int (pda_cons pd_int (pda_cons (pd_fn (ok_l_take T) hgd (hr.mono (by decide)) (by rfl) T.m_l_take T.F_l_take.kp (bn_l_take_2 T) (pda_cons (pd_var 0) (pda_cons pd_int pda_nil))) pda_nil)))))) (pd_fn (ok_l_take T) hgd (hr.mono (by decide)) (by rfl) T.m_l_take T.F_l_take.kp (bn_l_take_2 T) (pda_cons (pd_var 0) (pda_cons pd_int pda_nil))) (fun _ _ => rfl)))
    (pdb_one (pds_ret (pd_tup (pda_cons pd_str (pda_cons (pd_var 1) (pda_cons (pd_add (pd_var 1) (pd_fn (ok_l_take T) hgd (hr.mono (by decide)) (by rfl) T.m_l_take T.F_l_take.kp (bn_l_take_2 T) (pda_cons (pd_var 0) (pda_cons (pd_sub pd_int (pd_var 1)) pda_nil)))) pda_nil)))))))
theorem ok_l_bounds (T : Txt base K mg Ad0) : FnG P w K mg base CX0 2 Ad0.a_l_bounds Ad0.fd_l_bounds ["_law_pool_here"] (FnD K sem_l_bounds) :=
  fn_body T.F_l_bounds sc_l_bounds len_l_bounds (pb_l_bounds T) okd_l_bounds
theorem pb_l_contract (T : Txt base K mg Ad0) (cdv : Value) (A : Around) (outer : List Env) (s : Shared) (H : Hp) (E : XK) (hgd : A.guards = some []) (hr : Room 2 (A.deeper (PyProof.Rows.envOfC "_law_contract" (defScope st_l_contract) s.heap.objs.size Ad0.a_l_contract cdv))) :
    PDB (cxOf CX0 P w K mg base ["_law_pool_here", "_law_shelves", "_law_calls", "_law_name", "_law_shelf", "_law_some", "_law_way"] "_law_contract" (defScope st_l_contract) Ad0.a_l_contract cdv A outer s H E).nox (defBody st_l_contract) den_l_contract :=
  (pdb_cons (pds_set (i := 1) sc_l_contract.nd rfl (by first | exact Or.inl rfl | exact Or.inr rfl) (pd_slice (pd_lst (pda_cons (pd_tup (pda_cons pd_str (pda_cons (pd_add pd_int (pd_fn (ok_l_take T) hgd (hr.mono (by decide)) (by rfl) T.m_l_take T.F_l_take.kp (bn_l_take_2 T) (pda_cons (pd_var 0) (pda_cons pd_int pda_nil)))) pda_nil))) (pda_cons (pd_tup (pda_cons pd_str (pda_cons pd_int pda_nil))) pda_nil))) pdo_none (pdo_some (pd_add pd_int (pd_fn (ok_l_take T) hgd (hr.mono (by decide)) (by rfl) T.m_l_take T.F_l_take.kp (bn_l_take_2 T) (pda_cons (pd_var 0) (pda_cons pd_int pda_nil)))))))
    (pdb_cons (pds_set (i := 2) sc_l_contract.nd rfl (by first | exact Or.inl rfl | exact Or.inr rfl) (pd_lstC pda_nil))
    (pdb_cons (pds_for PassesOwn.never rfl (pdi_list (pd_slice (pd_lst (pda_cons pd_str (pda_cons pd_str (pda_cons pd_str (pda_cons pd_str (pda_cons pd_str pda_nil)))))) pdo_none (pdo_some (pd_add pd_int (pd_fn (ok_l_take T) hgd (hr.mono (by decide)) (by rfl) T.m_l_take T.F_l_take.kp (bn_l_take_2 T) (pda_cons (pd_var 0) (pda_cons pd_int pda_nil))))))) (pdg_name (i := 3) sc_l_contract.nd rfl (by first | exact Or.inl rfl | exact Or.inr rfl)) (pdb_cons (pds_set (i := 4) sc_l_contract.nd rfl (by first | exact Or.inl rfl | exact Or.inr rfl) (pd_ix (hu_of hr) (pd_ix (hu_of hr) (pd_var 1) (pd_fn (ok_l_take T) hgd (hr.mono (by decide)) (by rfl) T.m_l_take T.F_l_take.kp (bn_l_take_2 T) (pda_cons (pd_var 0) (pda_cons (pd_callB call_len3 callD_len (by rfl) T.b_len (by decide +kernel) (pda_cons (pd_var 1) pda_nil)) pda_nil))) (fun _ _ => rfl)) pd_int (fun _ _ => rfl)))
    (pdb_cons (pds_set (i := 5) sc_l_contract.nd rfl (by first | exact Or.inl rfl | exact Or.inr rfl) (pd_lst (pda_cons (pd_fn (ok_l_bounds T) hgd (hr.mono (by decide)) (by rfl) T.m_l_bounds T.F_l_bounds.kp (bn_l_bounds_1 T) (pda_cons (pd_var 0) pda_nil)) (pda_cons (pd_tup (pda_cons pd_str (pda_cons (pd_add pd_int (pd_fn (ok_l_take T) hgd (hr.mono (by decide)) (by rfl) T.m_l_take T.F_l_take.kp (bn_l_take_2 T) (pda_cons (pd_var 0) (pda_cons pd_int pda_nil)))) pda_nil))) (pda_cons (pd_fn (ok_l_bounds T) hgd (hr.mono (by decide)) (by rfl) T.m_l_bounds T.F_l_bounds.kp (bn_l_bounds_1 T) (pda_cons (pd_var 0) pda_nil)) pda_nil)))))
    (pdb_cons (pds_set (i := 6) sc_l_contract.nd rfl (by first | exact Or.inl rfl | exact Or.inr rfl) (pd_fn (ok_l_take T) hgd (hr.mono (by decide)) (by rfl) T.m_l_take T.F_l_take.kp (bn_l_take_2 T) (pda_cons (pd_var 0) (pda_cons pd_int pda_nil))))
    (pdb_one (pds_if (pdt_cmp (opR_or op_eq (op_eqD hr.units)) opD_eq (pd_var 6) pd_int (nomark _)) (pdb_one (pds_expr (pd_append (pd_var 2) (pd_tup (pda_cons (pd_var 3) (pda_cons (pd_tup (pda_cons (pd_fn (ok_l_bounds T) hgd (hr.mono (by decide)) (by rfl) T.m_l_bounds T.F_l_bounds.kp (bn_l_bounds_1 T) (pda_cons (pd_var 0) pda_nil)) (pda_cons (pd_tup (pda_cons pd_str (pda_cons (pd_var 4) pda_nil))) pda_nil))) (pda_cons (pd_fn (ok_l_bounds T) hgd (hr.mono (by decide)) (by rfl) T.m_l_bounds T.F_l_bounds.kp (bn_l_bounds_1 T) (pda_cons (pd_var 0) pda_nil)) pda_nil))))))) (pdb_one (pds_if (pdt_cmp (opR_or op_eq (op_eqD hr.units)) opD_eq (pd_var 6) pd_int (nomark _)) (pdb_one (pds_expr (pd_append (pd_var 2) (pd_tup (pda_cons (pd_var 3) (pda_cons (pd_tup (pda_cons (pd_ix (hu_of hr) (pd_var 5) pd_int (fun _ _ => rfl)) (pda_cons (pd_tup (pda_cons pd_str (pda_cons (pd_var 4) pda_nil))) (pda_cons (pd_tup (pda_cons pd_str (pda_cons (pd_ix (hu_of hr) (pd_ix (hu_of hr) (pd_var 1) (pd_neg pd_int) (fun _ _ => rfl)) pd_int (fun _ _ => rfl)) pda_nil))) pda_nil)))) (pda_cons (pd_tup (pda_cons pd_str (pda_cons (pd_var 4) pda_nil))) pda_nil))))))) (pdb_one (pds_if (pdt_cmp (opR_or op_eq (op_eqD hr.units)) opD_eq (pd_var 6) pd_int (nomark _)) (pdb_one (pds_expr (pd_append (pd_var 2) (pd_tup (pda_cons (pd_var 3) (pda_cons (pd_callTy call_tuple_of callD_tupOf (by rfl) T.b_tuple (by decide +kernel) (pda_cons (pd_add (pd_lst (pda_cons (pd_fn (ok_l_bounds T) hgd (hr.mono (by decide)) (by rfl) T.m_l_bounds T.F_l_bounds.kp (bn_l_bounds_1 T) (pda_cons (pd_var 0) pda_nil)) pda_nil)) (pd_slice (pd_var 5) pdo_none (pdo_some (pd_fn (ok_l_take T) hgd (hr.mono (by decide)) (by rfl) T.m_l_take T.F_l_take.kp (bn_l_take_2 T) (pda_cons (pd_var 0) (pda_cons pd_int pda_nil)))))) pda_nil)) (pda_cons (pd_tup (pda_cons pd_str (pda_cons (pd_var 4) pda_nil))) pda_nil))))))) (pdb_one (pds_if (pdt_cmp (opR_or op_eq (op_eqD hr.units)) opD_eq (pd_var 6) pd_int (nomark _)) (pdb_one (pds_expr (pd_append (pd_var 2) (pd_tup (pda_cons (pd_var 3) (pda_cons (pd_callTy call_tuple_of callD_tupOf (by rfl) T.b_tuple (by decide +kernel) (pda_cons (pd_add (pd_lst (pda_cons (pd_tup (pda_cons pd_str (pda_cons (pd_var 4) pda_nil))) pda_nil)) (pd_slice (pd_var 5) pdo_none (pdo_some (pd_fn (ok_l_take T) hgd (hr.mono (by decide)) (by rfl) T.m_l_take T.F_l_take.kp (bn_l_take_2 T) (pda_cons (pd_var 0) (pda_cons pd_int pda_nil)))))) pda_nil)) (pda_cons (pd_tup (pda_cons pd_str pda_nil)) pda_nil))))))) (pdb_one (pds_expr (pd_append (pd_var 2) (pd_tup (pda_cons (pd_var 3) (pda_cons (pd_callTy call_tuple_of callD_tupOf (by rfl) T.b_tuple (by decide +kernel) (pda_cons (pd_slice (pd_slice (pd_add (pd_lst (pda_cons (pd_tup (pda_cons pd_str (pda_cons (pd_var 4) pda_nil))) pda_nil)) (pd_var 5)) (pdo_some (pd_fn (ok_l_take T) hgd (hr.mono (by decide)) (by rfl) T.m_l_take T.F_l_take.kp (bn_l_take_2 T) (pda_cons (pd_var 0) (pda_cons pd_int pda_nil)))) pdo_none) pdo_none (pdo_some pd_int)) pda_nil)) (pda_cons (pd_fn (ok_l_bounds T) hgd (hr.mono (by decide)) (by rfl) T.m_l_bounds T.F_l_bounds.kp (bn_l_bounds_1 T) (pda_cons (pd_var 0) pda_nil)) pda_nil)))))))))))))))))))
    (pdb_one (pds_ret (pd_tup (pda_cons (pd_var 1) (pda_cons (pd_frz (pd_var 2)) pda_nil))))))))
theorem ok_l_contract (T : Txt base K mg Ad0) : FnG P w K mg base CX0 3 Ad0.a_l_contract Ad0.fd_l_contract ["_law_pool_here"] (FnD K sem_l_contract) :=
  fn_body T.F_l_contract sc_l_contract len_l_contract (pb_l_contract T) okd_l_contract
theorem pb_l_whole (T : Txt base K mg Ad0) (cdv : Value) (A : Around) (outer : List Env) (s : Shared) (H : Hp) (E : XK) (hgd : A.guards = some []) (hr : Room 0 (A.deeper (PyProof.Rows.envOfC "_law_whole" (defScope st_l_whole) s.heap.objs.size Ad0.a_l_whole cdv))) :
    PDB (cxOf CX0 P w K mg base ["_law_thing", "_law_least", "_law_most"] "_law_whole" (defScope st_l_whole) Ad0.a_l_whole cdv A outer s H E).nox (defBody st_l_whole) den_l_whole :=
  (pdb_one (pds_ret (pd_and (pd_callB call_isi (callD_isi (n := "int")) (by rfl) T.b_isinstance (by decide +kernel) (pda_cons (pd_var 0) (pda_cons (pd_bty (by rfl) T.b_int (by decide +kernel)) pda_nil))) (pd_and (pd_not (pd_callB call_isi (callD_isi (n := "bool")) (by rfl) T.b_isinstance (by decide +kernel) (pda_cons (pd_var 0) (pda_cons (pd_bty (by rfl) T.b_bool (by decide +kernel)) pda_nil)))) (pd_one (pd_chain op_le opD_le op_le opD_le (pd_var 1) (pd_var 0) (pd_var 2) (by with_unfolding_all rfl)))))))
theorem ok_l_whole (T : Txt base K mg Ad0) : FnG P w K mg base CX0 1 Ad0.a_l_whole Ad0.fd_l_whole ["_law_thing", "_law_least", "_law_most"] (FnD K sem_l_whole) :=
  fn_body T.F_l_whole sc_l_whole len_l_whole (pb_l_whole T) okd_l_whole
theorem pb_l_is_name (T : Txt base K mg Ad0) (cdv : Value) (A : Around) (outer : List Env) (s : Shared) (H : Hp) (E : XK) (hgd : A.guards = some []) (hr : Room 0 (A.deeper (PyProof.Rows.envOfC "_law_is_name" (defScope st_l_is_name) s.heap.objs.size Ad0.a_l_is_name cdv))) :
    PDB (cxOf CX0 P w K mg base ["_law_thing", "_law_sign"] "_law_is_name" (defScope st_l_is_name) Ad0.a_l_is_name cdv A outer s H E).nox (defBody st_l_is_name) den_l_is_name :=
  (pdb_cons (pds_if (pdt_w (pdw_or (pdt_not (pdt_of (pd_callB call_isi (callD_isi (n := "str")) (by rfl) T.b_isinstance (by decide +kernel) (pda_cons (pd_var 0) (pda_cons (pd_bty (by rfl) T.b_str (by decide +kernel)) pda_nil))))) (pdw_one_or (pdt_not (pdt_chain op_le opD_le op_le opD_le pd_int (pd_callB call_len3 callD_len (by rfl) T.b_len (by decide +kernel) (pda_cons (pd_var 0) pda_nil)) pd_int (by with_unfolding_all rfl)))))) (pdb_one (pds_ret pd_bl)) pdb_nil)
    (pdb_one (pds_ret (pd_eqNil hr.units (pd_lc (g := (.one 1)) rfl sc_l_is_name.nd (pdi_str (pd_var 0)) (blkOk_by (N := ["_law_thing", "_law_sign"]) (sc := defScope st_l_is_name) (own := [("_law_sign", 1)]) (by decide +kernel)) rfl (fun _ _ _ _ _ => (pg_name (i := 1) sc_l_is_name.nd rfl (by first | exact Or.inl rfl | exact Or.inr rfl))) (fun _ _ _ _ _ => (pts_one (pdt_not (pdt_chain op_le_str opD_leS op_le_str opD_leS pd_str (pd_var 1) pd_str (by with_unfolding_all rfl))))) (fun _ _ _ _ _ => (pd_var 1))) (pd_lst pda_nil)))))
theorem ok_l_is_name (T : Txt base K mg Ad0) : FnG P w K mg base CX0 1 Ad0.a_l_is_name Ad0.fd_l_is_name ["_law_thing"] (FnD K sem_l_is_name) :=
  fn_body T.F_l_is_name sc_l_is_name len_l_is_name (pb_l_is_name T) okd_l_is_name
theorem pb_l_is_tuple (T : Txt base K mg Ad0) (cdv : Value) (A : Around) (outer : List Env) (s : Shared) (H : Hp) (E : XK) (hgd : A.guards = some []) (hr : Room 0 (A.deeper (PyProof.Rows.envOfC "_law_is_tuple" (defScope st_l_is_tuple) s.heap.objs.size Ad0.a_l_is_tuple cdv))) :
    PDB (cxOf CX0 P w K mg base ["_law_thing", "_law_words", "_law_many"] "_law_is_tuple" (defScope st_l_is_tuple) Ad0.a_l_is_tuple cdv A outer s H E).nox (defBody st_l_is_tuple) den_l_is_tuple :=
  (pdb_one (pds_ret (pd_and (pd_callB call_isi (callD_isi (n := "tuple")) (by rfl) T.b_isinstance (by decide +kernel) (pda_cons (pd_var 0) (pda_cons (pd_bty (by rfl) T.b_tuple (by decide +kernel)) pda_nil))) (pd_and (pd_eq hr.units (pd_callB call_len3 callD_len (by rfl) T.b_len (by decide +kernel) (pda_cons (pd_var 0) pda_nil)) (pd_var 2)) (pd_and (pd_callB call_isi (callD_isi (n := "str")) (by rfl) T.b_isinstance (by decide +kernel) (pda_cons (pd_ix (hu_of hr) (pd_var 0) pd_int (fun _ _ => rfl)) (pda_cons (pd_bty (by rfl) T.b_str (by decide +kernel)) pda_nil))) (pd_one (pd_in (hu_of hr) hr.units (pd_ix (hu_of hr) (pd_var 0) pd_int (fun _ _ => rfl)) (pd_var 1) (by with_unfolding_all rfl))))))))
theorem ok_l_is_tuple (T : Txt base K mg Ad0) : FnG P w K mg base CX0 1 Ad0.a_l_is_tuple Ad0.fd_l_is_tuple ["_law_thing", "_law_words", "_law_many"] (FnD K sem_l_is_tuple) :=
  fn_body T.F_l_is_tuple sc_l_is_tuple len_l_is_tuple (pb_l_is_tuple T) okd_l_is_tuple
theorem pb_l_is_span (T : Txt base K mg Ad0) (cdv : Value) (A : Around) (outer : List Env) (s : Shared) (H : Hp) (E : XK) (hgd : A.guards = some []) (hr : Room 1 (A.deeper (PyProof.Rows.envOfC "_law_is_span" (defScope st_l_is_span) s.heap.objs.size Ad0.a_l_is_span cdv))) :
    PDB (cxOf CX0 P w K mg base ["_law_thing"] "_law_is_span" (defScope st_l_is_span) Ad0.a_l_is_span cdv A outer s H E).nox (defBody st_l_is_span) den_l_is_span :=
  (pdb_cons (pds_if (pdt_not (pdt_of (pd_fn (ok_l_is_tuple T) hgd (hr.mono (by decide)) (by rfl) T.m_l_is_tuple T.F_l_is_tuple.kp (bn_l_is_tuple_3 T) (pda_cons (pd_var 0) (pda_cons (pd_lst (pda_cons pd_str pda_nil)) (pda_cons pd_int pda_nil)))))) (pdb_one (pds_ret pd_bl)) pdb_nil)
    (pdb_one (pds_ret (pd_and (pd_fn (ok_l_whole T) hgd (hr.mono (by decide)) (by rfl) T.m_l_whole T.F_l_whole.kp (bn_l_whole_3 T) (pda_cons (pd_ix (hu_of hr) (pd_var 0) pd_int (fun _ _ => rfl)) (pda_cons pd_int (pda_cons pd_int pda_nil)))) (pd_one (pd_fn (ok_l_whole T) hgd (hr.mono (by decide)) (by rfl) T.m_l_whole T.F_l_whole.kp (bn_l_whole_3 T) (pda_cons (pd_ix (hu_of hr) (pd_var 0) pd_int (fun _ _ => rfl)) (pda_cons (pd_ix (hu_of hr) (pd_var 0) pd_int (fun _ _ => rfl)) (pda_cons pd_int pda_nil)))))))))
theorem ok_l_is_span (T : Txt base K mg Ad0) : FnG P w K mg base CX0 2 Ad0.a_l_is_span Ad0.fd_l_is_span ["_law_thing"] (FnD K sem_l_is_span) :=
  fn_body T.F_l_is_span sc_l_is_span len_l_is_span (pb_l_is_span T) okd_l_is_span
theorem pb_l_is_take (T : Txt base K mg Ad0) (cdv : Value) (A : Around) (outer : List Env) (s : Shared) (H : Hp) (E : XK) (hgd : A.guards = some []) (hr : Room 2 (A.deeper (PyProof.Rows.envOfC "_law_is_take" (defScope st_l_is_take) s.heap.objs.size Ad0.a_l_is_take cdv))) :
    PDB (cxOf CX0 P w K mg base ["_law_thing", "_law_names"] "_law_is_take" (defScope st_l_is_take) Ad0.a_l_is_take cdv A outer s H E).nox (defBody st_l_is_take) den_l_is_take :=
  (pdb_cons (pds_if (pdt_of (pd_fn (ok_l_is_tuple T) hgd (hr.mono (by decide)) (by rfl) T.m_l_is_tuple T.F_l_is_tuple.kp (bn_l_is_tuple_3 T) (pda_cons (pd_var 0) (pda_cons (pd_lst (pda_cons pd_str pda_nil)) (pda_cons pd_int pda_nil))))) (pdb_one (pds_ret (pd_fn (ok_l_whole T) hgd (hr.mono (by decide)) (by rfl) T.m_l_whole T.F_l_whole.kp (bn_l_whole_3 T) (pda_cons (pd_ix (hu_of hr) (pd_var 0) pd_int (fun _ _ => rfl)) (pda_cons pd_int (pda_cons pd_int pda_nil)))))) pdb_nil)
    (pdb_cons (pds_if (pdt_of (pd_fn (ok_l_is_tuple T) hgd (hr.mono (by decide)) (by rfl) T.m_l_is_tuple T.F_l_is_tuple.kp (bn_l_is_tuple_3 T) (pda_cons (pd_var 0) (pda_cons (pd_lst (pda_cons pd_str pda_nil)) (pda_cons pd_int pda_nil))))) (pdb_one (pds_ret (pd_and (pd_callB call_isi (callD_isi (n := "str")) (by rfl) T.b_isinstance (by decide +kernel) (pda_cons (pd_ix (hu_of hr) (pd_var 0) pd_int (fun _ _ => rfl)) (pda_cons (pd_bty (by rfl) T.b_str (by decide +kernel)) pda_nil))) (pd_one (pd_inL (pd_ix (hu_of hr) (pd_var 0) pd_int (fun _ _ => rfl)) (pd_var 1) (by with_unfolding_all rfl)))))) pdb_nil)
    (pdb_one (pds_ret (pd_fn (ok_l_is_span T) hgd (hr.mono (by decide)) (by rfl) T.m_l_is_span T.F_l_is_span.kp (bn_l_is_span_1 T) (pda_cons (pd_var 0) pda_nil))))))
theorem ok_l_is_take (T : Txt base K mg Ad0) : FnG P w K mg base CX0 3 Ad0.a_l_is_take Ad0.fd_l_is_take ["_law_thing", "_law_names"] (FnD K sem_l_is_take) :=
  fn_body T.F_l_is_take sc_l_is_take len_l_is_take (pb_l_is_take T) okd_l_is_take
theorem pb_l_is_call (T : Txt base K mg Ad0) (cdv : Value) (A : Around) (outer : List Env) (s : Shared) (H : Hp) (E : XK) (hgd : A.guards = some []) (hr : Room 3 (A.deeper (PyProof.Rows.envOfC "_law_is_call" (defScope st_l_is_call) s.heap.objs.size Ad0.a_l_is_call cdv))) :
    PDB (cxOf CX0 P w K mg base ["_law_thing", "_law_names", "_law_takes", "_law_gives", "_law_one", "_law_words"] "_law_is_call" (defScope st_l_is_call) Ad0.a_l_is_call cdv A outer s H E).nox (defBody st_l_is_call) den_l_is_call :=
  (pdb_cons (pds_if (pdt_w (pdw_or (pdt_not (pdt_of (pd_callB call_isi (callD_isi (n := "tuple")) (by rfl) T.b_isinstance (by decide +kernel) (pda_cons (pd_var 0) (pda_cons (pd_bty (by rfl) T.b_tuple (by decide +kernel)) pda_nil))))) (pdw_or (pdt_cmp (opR_or op_ne (op_neD hr.units)) opD_ne (pd_callB call_len3 callD_len (by rfl) T.b_len (by decide +kernel) (pda_cons (pd_var 0) pda_nil)) pd_int (nomark _)) (pdw_one_or (pdt_not (pdt_of (pd_fn (ok_l_is_name T) hgd (hr.mono (by decide)) (by rfl) T.m_l_is_name T.F_l_is_name.kp (bn_l_is_name_1 T) (pda_cons (pd_ix (hu_of hr) (pd_var 0) pd_int (fun _ _ => rfl)) pda_nil)))))))) (pdb_one (pds_ret pd_bl)) pdb_nil)
    (pdb_cons (pds_asg (pd_sliceT (pd_var 0) (pdo_some pd_int) pdo_none) (pdg_tup rfl (pdgs_cons (pdg_name (i := 2) sc_l_is_call.nd rfl (by first | exact Or.inl rfl | exact Or.inr rfl)) (pdgs_cons (pdg_name (i := 3) sc_l_is_call.nd rfl (by first | exact Or.inl rfl | exact Or.inr rfl)) pdgs_nil))))
    (pdb_cons (pds_if (pdt_w (pdw_or (pdt_not (pdt_of (pd_callB call_isi (callD_isi (n := "tuple")) (by rfl) T.b_isinstance (by decide +kernel) (pda_cons (pd_var 2) (pda_cons (pd_bty (by rfl) T.b_tuple (by decide +kernel)) pda_nil))))) (pdw_or (pdt_cmp op_gt opD_gt (pd_callB call_len3 callD_len (by rfl) T.b_len (by decide +kernel) (pda_cons (pd_var 2) pda_nil)) pd_int (nomark _)) (pdw_one_or (pdt_cmp (op_neNil hr.units) opD_nil (pd_lc (g := (.one 4)) rfl sc_l_is_call.nd (pdi_tup (pd_var 2)) (blkOk_by (N := ["_law_thing", "_law_names", "_law_takes", "_law_gives", "_law_one", "_law_words"]) (sc := defScope st_l_is_call) (own := [("_law_one", 4)]) (by decide +kernel)) rfl (fun _ _ _ _ _ => (pg_name (i := 4) sc_l_is_call.nd rfl (by first | exact Or.inl rfl | exact Or.inr rfl))) (fun _ _ _ _ _ => (pts_one (pdt_not (pdt_of (pd_fn (ok_l_is_take T) hgd (hr.mono (by decide)) (by rfl) T.m_l_is_take T.F_l_is_take.kp (bn_l_is_take_2 T) (pda_cons (pd_var 4) (pda_cons (pd_var 1) pda_nil))))))) (fun _ _ _ _ _ => (pd_var 4))) (pd_lst pda_nil) (nomark _)))))) (pdb_one (pds_ret pd_bl)) pdb_nil)
    (pdb_cons (pds_set (i := 5) sc_l_is_call.nd rfl (by first | exact Or.inl rfl | exact Or.inr rfl) (pd_addA (pd_lc (g := (.one 4)) rfl sc_l_is_call.nd (pdi_tup (pd_var 2)) (blkOk_by (N := ["_law_thing", "_law_names", "_law_takes", "_law_gives", "_law_one", "_law_words"]) (sc := defScope st_l_is_call) (own := [("_law_one", 4)]) (by decide +kernel)) rfl (fun _ _ _ _ _ => (pg_name (i := 4) sc_l_is_call.nd rfl (by first | exact Or.inl rfl | exact Or.inr rfl))) (fun _ _ _ _ _ => pts_yes) (fun _ _ _ _ _ => (pd_ix (hu_of hr) (pd_var 4) pd_int (fun _ _ => rfl)))) (pd_lst (pda_cons pd_str pda_nil))))
    (pdb_cons (pds_if (pdt_of (pd_fn (ok_l_is_tuple T) hgd (hr.mono (by decide)) (by rfl) T.m_l_is_tuple T.F_l_is_tuple.kp (bn_l_is_tuple_3 T) (pda_cons (pd_var 3) (pda_cons (pd_lst (pda_cons pd_str pda_nil)) (pda_cons pd_int pda_nil))))) (pdb_one (pds_ret (pd_and (pd_callB call_isi (callD_isi (n := "str")) (by rfl) T.b_isinstance (by decide +kernel) (pda_cons (pd_ix (hu_of hr) (pd_var 3) pd_int (fun _ _ => rfl)) (pda_cons (pd_bty (by rfl) T.b_str (by decide +kernel)) pda_nil))) (pd_and (pd_inL (pd_ix (hu_of hr) (pd_var 3) pd_int (fun _ _ => rfl)) (pd_var 1) (by with_unfolding_all rfl)) (pd_one (pd_eq hr.units (pd_ix (hu_of hr) (pd_var 5) pd_int (fun _ _ => rfl)) pd_str)))))) pdb_nil)
    (pdb_cons (pds_if (pdt_of (pd_fn (ok_l_is_tuple T) hgd (hr.mono (by decide)) (by rfl) T.m_l_is_tuple T.F_l_is_tuple.kp (bn_l_is_tuple_3 T) (pda_cons (pd_var 3) (pda_cons (pd_lst (pda_cons pd_str pda_nil)) (pda_cons pd_int pda_nil))))) (pdb_one (pds_ret (pd_and (pd_eq hr.units (pd_ix (hu_of hr) (pd_var 5) pd_int (fun _ _ => rfl)) pd_str) (pd_one (pd_eq hr.units (pd_count (pd_var 5) pd_str) pd_int))))) pdb_nil)
    (pdb_one (pds_ret (pd_fn (ok_l_is_span T) hgd (hr.mono (by decide)) (by rfl) T.m_l_is_span T.F_l_is_span.kp (bn_l_is_span_1 T) (pda_cons (pd_var 3) pda_nil))))))))))
theorem ok_l_is_call (T : Txt base K mg Ad0) : FnG P w K mg base CX0 4 Ad0.a_l_is_call Ad0.fd_l_is_call ["_law_thing", "_law_names"] (FnD K sem_l_is_call) :=
  fn_body T.F_l_is_call sc_l_is_call len_l_is_call (pb_l_is_call T) okd_l_is_call
theorem pb_l_is_shelf (T : Txt base K mg Ad0) (cdv : Value) (A : Around) (outer : List Env) (s : Shared) (H : Hp) (E : XK) (hgd : A.guards = some []) (hr : Room 1 (A.deeper (PyProof.Rows.envOfC "_law_is_shelf" (defScope st_l_is_shelf) s.heap.objs.size Ad0.a_l_is_shelf cdv))) :
    PDB (cxOf CX0 P w K mg base ["_law_thing"] "_law_is_shelf" (defScope st_l_is_shelf) Ad0.a_l_is_shelf cdv A outer s H E).nox (defBody st_l_is_shelf) den_l_is_shelf :=
  (pdb_one (pds_ret (pd_and (pd_callB call_isi (callD_isi (n := "tuple")) (by rfl) T.b_isinstance (by decide +kernel) (pda_cons (pd_var 0) (pda_cons (pd_bty (by rfl) T.b_tuple (by decide +kernel)) pda_nil))) (pd_and (pd_eq hr.units (pd_callB call_len3 callD_len (by rfl) T.b_len (by decide +kernel) (pda_cons (pd_var 0) pda_nil)) pd_int) (pd_and (pd_fn (ok_l_is_name T) hgd (hr.mono (by decide)) (by rfl) T.m_l_is_name T.F_l_is_name.kp (bn_l_is_name_1 T) (pda_cons (pd_ix (hu_of hr) (pd_var 0) pd_int (fun _ _ => rfl)) pda_nil)) (pd_one (pd_fn (ok_l_whole T) hgd (hr.mono (by decide)) (by rfl) T.m_l_whole T.F_l_whole.kp (bn_l_whole_3 T) (pda_cons (pd_ix (hu_of hr) (pd_var 0) pd_int (fun _ _ => rfl)) (pda_cons pd_int (pda_cons pd_int pda_nil))))))))))
theorem ok_l_is_shelf (T : Txt base K mg Ad0) : FnG P w K mg base CX0 2 Ad0.a_l_is_shelf Ad0.fd_l_is_shelf ["_law_thing"] (FnD K sem_l_is_shelf) :=
  fn_body T.F_l_is_shelf sc_l_is_shelf len_l_is_shelf (pb_l_is_shelf T) okd_l_is_shelf
theorem pb_l_due (T : Txt base K mg Ad0) (cdv : Value) (A : Around) (outer : List Env) (s : Shared) (H : Hp) (E : XK) (hgd : A.guards = some []) (hr : Room 4 (A.deeper (PyProof.Rows.envOfC "_law_due" (defScope st_l_due) s.heap.objs.size Ad0.a_l_due cdv))) :
    PDB (cxOf CX0 P w K mg base ["_law_thing", "_law_names", "_law_number", "_law_one", "_law_other"] "_law_due" (defScope st_l_due) Ad0.a_l_due cdv A outer s H E).nox (defBody st_l_due) den_l_due :=
  (pdb_cons (pds_if (pdt_w (pdw_or (pdt_not (pdt_of (pd_callB call_isi (callD_isi (n := "tuple")) (by rfl) T.b_isinstance (by decide +kernel) (pda_cons (pd_var 0) (pda_cons (pd_bty (by rfl) T.b_tuple (by decide +kernel)) pda_nil))))) (pdw_one_or (pdt_cmp (opR_or op_ne (op_neD hr.units)) opD_ne (pd_callB call_len3 callD_len (by rfl) T.b_len (by decide +kernel) (pda_cons (pd_var 0) pda_nil)) pd_int (nomark _))))) (pdb_one (pds_ret (pd_tidy pd_str))) pdb_nil)
    (pdb_cons (pds_set (i := 1) sc_l_due.nd rfl (by first | exact Or.inl rfl | exact Or.inr rfl) (pd_lstC pda_nil))
    (pdb_cons (pds_if (pdt_w (pdw_or (pdt_not (pdt_of (pd_callB call_isi (callD_isi (n := "list")) (by rfl) T.b_isinstance (by decide +kernel) (pda_cons (pd_ix (hu_of hr) (pd_var 0) pd_int (fun _ _ => rfl)) (pda_cons (pd_bty (by rfl) T.b_list (by decide +kernel)) pda_nil))))) (pdw_one_or (pdt_cmp op_gt opD_gt (pd_callB call_len3 callD_len (by rfl) T.b_len (by decide +kernel) (pda_cons (pd_ix (hu_of hr) (pd_var 0) pd_int (fun _ _ => rfl)) pda_nil)) pd_int (nomark _))))) (pdb_one (pds_ret (pd_tidy pd_str))) pdb_nil)
    (pdb_cons (pds_for PassesOwn.never rfl (pdi_enum (by rfl) T.b_enumerate (pda_cons (pd_ix (hu_of hr) (pd_var 0) pd_int (fun _ _ => rfl)) pda_nil)) (pdg_tup rfl (pdgs_cons (pdg_name (i := 2) sc_l_due.nd rfl (by first | exact Or.inl rfl | exact Or.inr rfl)) (pdgs_cons (pdg_name (i := 3) sc_l_due.nd rfl (by first | exact Or.inl rfl | exact Or.inr rfl)) pdgs_nil))) (pdb_cons (pds_if (pdt_w (pdw_or (pdt_not (pdt_of (pd_fn (ok_l_is_shelf T) hgd (hr.mono (by decide)) (by rfl) T.m_l_is_shelf T.F_l_is_shelf.kp (bn_l_is_shelf_1 T) (pda_cons (pd_var 3) pda_nil)))) (pdw_one_or (pdt_cmp op_in_seq opD_inL (pd_ix (hu_of hr) (pd_var 3) pd_int (fun _ _ => rfl)) (pd_var 1) (by with_unfolding_all rfl))))) (pdb_one (pds_ret (pd_tidy (pd_add pd_str (pd_callTy call_str callD_str (by rfl) T.b_str (by decide +kernel) (pda_cons (pd_var 2) pda_nil)))))) pdb_nil)
    (pdb_one (pds_expr (pd_append (pd_var 1) (pd_ix (hu_of hr) (pd_var 3) pd_int (fun _ _ => rfl)))))))
    (pdb_cons (pds_if (pdt_w (pdw_or (pdt_not (pdt_of (pd_callB call_isi (callD_isi (n := "list")) (by rfl) T.b_isinstance (by decide +kernel) (pda_cons (pd_ix (hu_of hr) (pd_var 0) pd_int (fun _ _ => rfl)) (pda_cons (pd_bty (by rfl) T.b_list (by decide +kernel)) pda_nil))))) (pdw_one_or (pdt_cmp op_gt opD_gt (pd_callB call_len3 callD_len (by rfl) T.b_len (by decide +kernel) (pda_cons (pd_ix (hu_of hr) (pd_var 0) pd_int (fun _ _ => rfl)) pda_nil)) pd_int (nomark _))))) (pdb_one (pds_ret (pd_tidy pd_str))) pdb_nil)
    (pdb_cons (pds_for PassesOwn.never rfl (pdi_enum (by rfl) T.b_enumerate (pda_cons (pd_ix (hu_of hr) (pd_var 0) pd_int (fun _ _ => rfl)) pda_nil)) (pdg_tup rfl (pdgs_cons (pdg_name (i := 2) sc_l_due.nd rfl (by first | exact Or.inl rfl | exact Or.inr rfl)) (pdgs_cons (pdg_name (i := 3) sc_l_due.nd rfl (by first | exact Or.inl rfl | exact Or.inr rfl)) pdgs_nil))) (pdb_one (pds_if (pdt_w (pdw_or (pdt_not (pdt_of (pd_fn (ok_l_is_call T) hgd (hr.mono (by decide)) (by rfl) T.m_l_is_call T.F_l_is_call.kp (bn_l_is_call_2 T) (pda_cons (pd_var 3) (pda_cons (pd_var 1) pda_nil))))) (pdw_one_or (pdt_cmp op_in_seq opD_in (pd_ix (hu_of hr) (pd_var 3) pd_int (fun _ _ => rfl)) (pd_lc (g := (.one 4)) rfl sc_l_due.nd (pdi_list (pd_slice (pd_ix (hu_of hr) (pd_var 0) pd_int (fun _ _ => rfl)) pdo_none (pdo_some (pd_var 2)))) (blkOk_by (N := ["_law_thing", "_law_names", "_law_number", "_law_one", "_law_other"]) (sc := defScope st_l_due) (own := [("_law_other", 4)]) (by decide +kernel)) rfl (fun _ _ _ _ _ => (pg_name (i := 4) sc_l_due.nd rfl (by first | exact Or.inl rfl | exact Or.inr rfl))) (fun _ _ _ _ _ => pts_yes) (fun _ _ _ _ _ => (pd_ix (hu_of hr) (pd_var 4) pd_int (fun _ _ => rfl)))) (by with_unfolding_all rfl))))) (pdb_one (pds_ret (pd_tidy (pd_add pd_str (pd_callTy call_str callD_str (by rfl) T.b_str (by decide +kernel) (pda_cons (pd_var 2) pda_nil)))))) pdb_nil)))
    (pdb_one (pds_ret (pd_tidy pd_str)))))))))
theorem ok_l_due (T : Txt base K mg Ad0) : FnG P w K mg base CX0 5 Ad0.a_l_due Ad0.fd_l_due ["_law_thing"] (FnD K sem_l_due) :=
  fn_body T.F_l_due sc_l_due len_l_due (pb_l_due T) okd_l_due
theorem pb_l_told (T : Txt base K mg Ad0) (cdv : Value) (A : Around) (outer : List Env) (s : Shared) (H : Hp) (E : XK) (hgd : A.guards = some []) (hr : Room 8 (A.deeper (PyProof.Rows.envOfC "_law_told" (defScope st_l_told) s.heap.objs.size Ad0.a_l_told cdv))) :
    PDB (cxOf CX0 P w K mg base ["_law_thing", "_law_error", "_law_found", "e"] "_law_told" (defScope st_l_told) Ad0.a_l_told cdv A outer s H E).nox (defBody st_l_told) den_l_told :=
  (pdb_cons (pds_set (i := 1) sc_l_told.nd rfl (by first | exact Or.inl rfl | exact Or.inr rfl) pd_non)
    (pdb_cons (pds_set (i := 2) sc_l_told.nd rfl (by first | exact Or.inl rfl | exact Or.inr rfl) pd_non)
    (pdb_cons (pds_tryKeep (i := 3) (sub := subT_GateError) rfl rfl rfl sc_l_told.nd rfl rfl ⟨rfl, by decide, .inl T.g_GateError⟩ (sub_GateError T) (cl_GateError T) (fun pn xe po => (pdb_one (pds_setX (i := 2) sc_l_told.nd rfl (by first | exact Or.inl rfl | exact Or.inr rfl) (pdx_fn (ok_p_look_at_contract T) hgd (hr.mono (by decide)) (by rfl) T.m_p_look_at_contract T.F_p_look_at_contract.kp (bn_p_look_at_contract_1 T) (pda_cons (pd_var 0) pda_nil))))) (fun a pn => (pdb_one (pds_set (i := 1) sc_l_told.nd rfl (by first | exact Or.inl rfl | exact Or.inr rfl) (pd_var 3)))))
    (pdb_cons (pds_if (pdt_isN (pd_var 1)) (pdb_one (pds_ret (pd_tidy (pd_ix (hu_of hr) (pd_lst (pda_cons pd_str (pda_cons pd_str pda_nil))) (pd_callTy call_int1 callD_int (by rfl) T.b_int (by decide +kernel) (pda_cons (pd_isN (pd_var 2)) pda_nil)) (fun _ _ => rfl))))) pdb_nil)
    (pdb_cons (pds_if (pdt_w (pdw_or (pdt_not (pdt_of (pd_isX (ob := isK_NoContract) (by rfl) T.b_isinstance (pd_var 1) (clsN_own (by rfl) T.g_NoContract) (isK_ok_NoContract T)))) (pdw_one_or (pdt_of (pd_isX (ob := isK_NoProgram) (by rfl) T.b_isinstance (pd_var 1) (clsN_own (by rfl) T.g_NoProgram) (isK_ok_NoProgram T)))))) (pdb_one (pds_ret (pd_tidy pd_str))) pdb_nil)
    (pdb_one (pds_ret (pd_tidy (pd_add (pd_add (pd_callB (call_reprE hgd hr.units) callD_reprE (by rfl) T.b_repr (by decide +kernel) (pda_cons (pd_xF (okx := fldT_part) (pd_var 1) (fld_ok_part T)) pda_nil)) pd_str) (pd_callB (call_reprE hgd hr.units) callD_reprE (by rfl) T.b_repr (by decide +kernel) (pda_cons (pd_xF (okx := fldT_number) (pd_var 1) (fld_ok_number T)) pda_nil)))))))))))
theorem ok_l_told (T : Txt base K mg Ad0) : FnG P w K mg base CX0 9 Ad0.a_l_told Ad0.fd_l_told ["_law_thing"] (FnD K sem_l_told) :=
  fn_body T.F_l_told sc_l_told len_l_told (pb_l_told T) okd_l_told
theorem pb_l_odd (T : Txt base K mg Ad0) (cdv : Value) (A : Around) (outer : List Env) (s : Shared) (H : Hp) (E : XK) (hgd : A.guards = some []) (hr : Room 1 (A.deeper (PyProof.Rows.envOfC "_law_odd" (defScope st_l_odd) s.heap.objs.size Ad0.a_l_odd cdv))) :
    PDB (cxOf CX0 P w K mg base ["_law_pool_here", "_law_some"] "_law_odd" (defScope st_l_odd) Ad0.a_l_odd cdv A outer s H E).nox (defBody st_l_odd) den_l_odd :=
  (pdb_cons (pds_set (i := 1) sc_l_odd.nd rfl (by first | exact Or.inl rfl | exact Or.inr rfl) (pd_lstC (pda_cons pd_non (pda_cons (pd_tup pda_nil) (pda_cons pd_str (pda_cons (pd_tup (pda_cons pd_str (pda_cons (pd_tup pda_nil) (pda_cons (pd_tup (pda_cons pd_str (pda_cons pd_int (pda_cons pd_int pda_nil)))) pda_nil)))) (pda_cons (pd_tup (pda_cons pd_str (pda_cons (pd_lst pda_nil) (pda_cons (pd_tup (pda_cons pd_str (pda_cons pd_int (pda_cons pd_int pda_nil)))) pda_nil)))) (pda_cons (pd_tup (pda_cons pd_str (pda_cons (pd_tup pda_nil) (pda_cons (pd_tup (pda_cons pd_str pda_nil)) pda_nil)))) pda_nil))))))))
    (pdb_cons (pds_set (i := 1) sc_l_odd.nd rfl (by first | exact Or.inl rfl | exact Or.inr rfl) (pd_addCel (pd_var 1) (pd_lst (pda_cons (pd_tup (pda_cons pd_str (pda_cons (pd_tup (pda_cons (pd_tup (pda_cons pd_str (pda_cons pd_int (pda_cons pd_int pda_nil)))) pda_nil)) (pda_cons (pd_tup (pda_cons pd_str (pda_cons pd_int (pda_cons pd_int pda_nil)))) pda_nil)))) (pda_cons (pd_tup (pda_cons pd_str (pda_cons (pd_tup (pda_cons (pd_tup (pda_cons pd_str (pda_cons pd_int pda_nil))) pda_nil)) (pda_cons (pd_tup (pda_cons pd_str (pda_cons pd_int (pda_cons pd_int pda_nil)))) pda_nil)))) pda_nil)))))
    (pdb_cons (pds_set (i := 1) sc_l_odd.nd rfl (by first | exact Or.inl rfl | exact Or.inr rfl) (pd_addCel (pd_var 1) (pd_lst (pda_cons (pd_tup (pda_cons pd_str (pda_cons (pd_tup (pda_cons (pd_tup (pda_cons pd_str (pda_cons pd_int pda_nil))) pda_nil)) (pda_cons (pd_tup (pda_cons pd_str (pda_cons pd_int (pda_cons pd_int pda_nil)))) pda_nil)))) (pda_cons (pd_tup (pda_cons pd_str (pda_cons (pd_tup (pda_cons (pd_tup (pda_cons pd_str (pda_cons pd_str pda_nil))) pda_nil)) (pda_cons (pd_tup (pda_cons pd_str (pda_cons pd_int (pda_cons pd_int pda_nil)))) pda_nil)))) pda_nil)))))
    (pdb_cons (pds_set (i := 1) sc_l_odd.nd rfl (by first | exact Or.inl rfl | exact Or.inr rfl) (pd_addCel (pd_var 1) (pd_lst (pda_cons (pd_tup (pda_cons pd_str (pda_cons (pd_tup pda_nil) (pda_cons (pd_tup (pda_cons pd_str (pda_cons pd_str pda_nil))) pda_nil)))) (pda_cons (pd_tup (pda_cons pd_str (pda_cons (pd_tup (pda_cons (pd_tup (pda_cons pd_str (pda_cons pd_int pda_nil))) pda_nil)) (pda_cons (pd_tup (pda_cons pd_str (pda_cons pd_str pda_nil))) pda_nil)))) (pda_cons (pd_tup (pda_cons pd_str (pda_cons (pd_tup pda_nil) (pda_cons (pd_tup (pda_cons pd_str (pda_cons pd_int pda_nil))) pda_nil)))) pda_nil))))))
    (pdb_cons (pds_set (i := 1) sc_l_odd.nd rfl (by first | exact Or.inl rfl | exact Or.inr rfl) (pd_addCel (pd_var 1) (pd_lst (pda_cons (pd_tup (pda_cons pd_str (pda_cons (pd_tup (pda_cons (pd_tup (pda_cons pd_str (pda_cons pd_str pda_nil))) (pda_cons (pd_tup (pda_cons pd_str (pda_cons pd_str pda_nil))) pda_nil))) (pda_cons (pd_tup (pda_cons pd_str pda_nil)) pda_nil)))) (pda_cons (pd_tup (pda_cons pd_str (pda_cons (pd_tup pda_nil) (pda_cons (pd_tup (pda_cons pd_str (pda_cons pd_bl (pda_cons pd_int pda_nil)))) pda_nil)))) pda_nil)))))
    (pdb_cons (pds_set (i := 1) sc_l_odd.nd rfl (by first | exact Or.inl rfl | exact Or.inr rfl) (pd_addCel (pd_var 1) (pd_lst (pda_cons (pd_tup (pda_cons pd_str (pda_cons (pd_tup (pda_cons (pd_tup (pda_cons pd_str (pda_cons pd_int (pda_cons pd_int pda_nil)))) pda_nil)) (pda_cons (pd_tup (pda_cons pd_str (pda_cons pd_int (pda_cons pd_int pda_nil)))) pda_nil)))) (pda_cons (pd_tup (pda_cons pd_str (pda_cons (pd_tup (pda_cons (pd_tup (pda_cons pd_str (pda_cons pd_int (pda_cons pd_int pda_nil)))) pda_nil)) (pda_cons (pd_tup (pda_cons pd_str (pda_cons pd_str pda_nil))) pda_nil)))) pda_nil)))))
    (pdb_cons (pds_expr (pd_append (pd_var 1) (pd_tup (pda_cons pd_str (pda_cons (pd_repT (pd_tup (pda_cons (pd_tup (pda_cons pd_str (pda_cons pd_int (pda_cons pd_int pda_nil)))) pda_nil)) pd_int) (pda_cons (pd_tup (pda_cons pd_str (pda_cons pd_int (pda_cons pd_int pda_nil)))) pda_nil))))))
    (pdb_cons (pds_expr (pd_append (pd_var 1) (pd_tup (pda_cons pd_str (pda_cons (pd_tup (pda_cons (pd_tup (pda_cons pd_str (pda_cons pd_int (pda_cons pd_int pda_nil)))) (pda_cons (pd_tup (pda_cons pd_str (pda_cons pd_str pda_nil))) pda_nil))) (pda_cons (pd_tup (pda_cons pd_str pda_nil)) pda_nil))))))
    (pdb_cons (pds_set (i := 1) sc_l_odd.nd rfl (by first | exact Or.inl rfl | exact Or.inr rfl) (pd_addCel (pd_var 1) (pd_lst (pda_cons (pd_tup (pda_cons pd_str (pda_cons (pd_tup (pda_cons (pd_tup (pda_cons pd_str (pda_cons pd_str pda_nil))) pda_nil)) (pda_cons (pd_tup (pda_cons pd_str (pda_cons pd_str pda_nil))) pda_nil)))) (pda_cons (pd_tup (pda_cons pd_str (pda_cons (pd_tup (pda_cons (pd_tup (pda_cons pd_str (pda_cons pd_bl pda_nil))) pda_nil)) (pda_cons (pd_tup (pda_cons pd_str (pda_cons pd_int (pda_cons pd_int pda_nil)))) pda_nil)))) pda_nil)))))
    (pdb_cons (pds_set (i := 1) sc_l_odd.nd rfl (by first | exact Or.inl rfl | exact Or.inr rfl) (pd_addCel (pd_var 1) (pd_lst (pda_cons (pd_tup (pda_cons pd_str (pda_cons pd_non (pda_cons (pd_tup (pda_cons pd_str (pda_cons pd_int (pda_cons pd_int pda_nil)))) pda_nil)))) (pda_cons (pd_tup (pda_cons pd_str (pda_cons (pd_tup pda_nil) (pda_cons (pd_tup pda_nil) pda_nil)))) (pda_cons (pd_tup (pda_cons pd_str (pda_cons (pd_tup pda_nil) (pda_cons pd_non pda_nil)))) (pda_cons (pd_tup (pda_cons pd_str (pda_cons pd_int pda_nil))) (pda_cons (pd_tup (pda_cons pd_str (pda_cons pd_int pda_nil))) pda_nil))))))))
    (pdb_cons (pds_set (i := 1) sc_l_odd.nd rfl (by first | exact Or.inl rfl | exact Or.inr rfl) (pd_addCel (pd_var 1) (pd_lst (pda_cons (pd_tup (pda_cons pd_str (pda_cons pd_int pda_nil))) (pda_cons (pd_tup (pda_cons pd_str (pda_cons pd_int pda_nil))) (pda_cons (pd_tup (pda_cons pd_str (pda_cons pd_int pda_nil))) (pda_cons (pd_tup (pda_cons pd_str (pda_cons (pd_tup pda_nil) (pda_cons (pd_tup (pda_cons pd_str (pda_cons pd_int (pda_cons pd_int pda_nil)))) pda_nil)))) (pda_cons (pd_tup (pda_cons pd_str (pda_cons (pd_tup pda_nil) (pda_cons (pd_tup (pda_cons pd_str (pda_cons pd_int (pda_cons pd_int pda_nil)))) pda_nil)))) pda_nil))))))))
    (pdb_cons (pds_set (i := 1) sc_l_odd.nd rfl (by first | exact Or.inl rfl | exact Or.inr rfl) (pd_addCel (pd_var 1) (pd_lst (pda_cons (pd_tup (pda_cons pd_str (pda_cons pd_int pda_nil))) (pda_cons (pd_tup (pda_cons pd_str (pda_cons pd_int pda_nil))) (pda_cons (pd_tup (pda_cons pd_str (pda_cons pd_int pda_nil))) (pda_cons (pd_tup (pda_cons pd_str (pda_cons pd_bl pda_nil))) (pda_cons (pd_tup (pda_cons pd_str (pda_cons (pd_tup pda_nil) (pda_cons (pd_tup (pda_cons pd_str (pda_cons pd_int (pda_cons pd_int pda_nil)))) pda_nil)))) pda_nil))))))))
    (pdb_cons (pds_set (i := 1) sc_l_odd.nd rfl (by first | exact Or.inl rfl | exact Or.inr rfl) (pd_addCel (pd_var 1) (pd_lst (pda_cons (pd_tup (pda_cons pd_str (pda_cons (pd_tup pda_nil) (pda_cons (pd_tup (pda_cons pd_str (pda_cons pd_int (pda_cons pd_int pda_nil)))) pda_nil)))) (pda_cons (pd_tup (pda_cons pd_str (pda_cons (pd_tup pda_nil) (pda_cons (pd_tup (pda_cons pd_str (pda_cons pd_int (pda_cons pd_int pda_nil)))) pda_nil)))) (pda_cons (pd_tup (pda_cons pd_str (pda_cons (pd_tup pda_nil) (pda_cons (pd_tup (pda_cons pd_str (pda_cons pd_int (pda_cons pd_int pda_nil)))) pda_nil)))) pda_nil))))))
    (pdb_cons (pds_set (i := 1) sc_l_odd.nd rfl (by first | exact Or.inl rfl | exact Or.inr rfl) (pd_addCel (pd_var 1) (pd_lst (pda_cons (pd_tup (pda_cons pd_str (pda_cons (pd_tup pda_nil) (pda_cons (pd_tup (pda_cons pd_str (pda_cons pd_int (pda_cons pd_int pda_nil)))) pda_nil)))) (pda_cons (pd_tup (pda_cons pd_str (pda_cons (pd_tup pda_nil) (pda_cons (pd_tup (pda_cons pd_str (pda_cons (pd_neg pd_int) (pda_cons pd_int pda_nil)))) pda_nil)))) (pda_cons (pd_tup (pda_cons pd_str (pda_cons (pd_tup (pda_cons (pd_tup (pda_cons pd_str (pda_cons pd_bl (pda_cons pd_int pda_nil)))) pda_nil)) (pda_cons (pd_tup pda_nil) pda_nil)))) pda_nil))))))
    (pdb_cons (pds_set (i := 1) sc_l_odd.nd rfl (by first | exact Or.inl rfl | exact Or.inr rfl) (pd_addCel (pd_var 1) (pd_lst (pda_cons (pd_tup (pda_cons pd_str (pda_cons (pd_tup (pda_cons (pd_tup (pda_cons pd_str (pda_cons (pd_lst (pda_cons pd_str pda_nil)) pda_nil))) pda_nil)) (pda_cons (pd_tup (pda_cons pd_str (pda_cons pd_int (pda_cons pd_int pda_nil)))) pda_nil)))) (pda_cons (pd_tup (pda_cons pd_str (pda_cons (pd_tup (pda_cons (pd_tup (pda_cons pd_str (pda_cons pd_int (pda_cons pd_int pda_nil)))) pda_nil)) (pda_cons (pd_tup (pda_cons pd_str (pda_cons pd_dnew pda_nil))) pda_nil)))) pda_nil)))))
    (pdb_cons (pds_set (i := 1) sc_l_odd.nd rfl (by first | exact Or.inl rfl | exact Or.inr rfl) (pd_addCel (pd_var 1) (pd_lst (pda_cons (pd_tup (pda_cons (pd_lst (pda_cons pd_str pda_nil)) (pda_cons (pd_tup pda_nil) (pda_cons (pd_tup (pda_cons pd_str (pda_cons pd_int (pda_cons pd_int pda_nil)))) pda_nil)))) (pda_cons (pd_tup (pda_cons (pd_lst (pda_cons pd_str pda_nil)) (pda_cons pd_int pda_nil))) (pda_cons (pd_tup (pda_cons pd_str (pda_cons (pd_tup (pda_cons (pd_tup (pda_cons (pd_lst pda_nil) pda_nil)) pda_nil)) (pda_cons (pd_tup (pda_cons pd_str (pda_cons pd_int (pda_cons pd_int pda_nil)))) pda_nil)))) (pda_cons (pd_tup (pda_cons pd_dnew (pda_cons pd_int pda_nil))) pda_nil)))))))
    (pdb_cons (pds_set (i := 1) sc_l_odd.nd rfl (by first | exact Or.inl rfl | exact Or.inr rfl) (pd_addCel (pd_var 1) (pd_lst (pda_cons (pd_tup (pda_cons pd_str (pda_cons (pd_tup (pda_cons (pd_tup (pda_cons (pd_lst (pda_cons pd_str pda_nil)) (pda_cons pd_int (pda_cons pd_int pda_nil)))) pda_nil)) (pda_cons (pd_tup (pda_cons pd_str (pda_cons pd_int (pda_cons pd_int pda_nil)))) pda_nil)))) (pda_cons (pd_tup (pda_cons pd_str (pda_cons (pd_tup pda_nil) (pda_cons (pd_tup (pda_cons (pd_lst (pda_cons pd_str pda_nil)) pda_nil)) pda_nil)))) pda_nil)))))
    (pdb_cons (pds_set (i := 1) sc_l_odd.nd rfl (by first | exact Or.inl rfl | exact Or.inr rfl) (pd_addCel (pd_var 1) (pd_lst (pda_cons (pd_tup (pda_cons pd_str (pda_cons (pd_tup (pda_cons (pd_lst pda_nil) pda_nil)) (pda_cons (pd_tup (pda_cons pd_str (pda_cons pd_int (pda_cons pd_int pda_nil)))) pda_nil)))) (pda_cons (pd_tup (pda_cons pd_str (pda_cons (pd_tup (pda_cons (pd_tup (pda_cons pd_str (pda_cons pd_int (pda_cons pd_int (pda_cons pd_int pda_nil))))) pda_nil)) (pda_cons (pd_tup (pda_cons pd_str (pda_cons pd_int (pda_cons pd_int pda_nil)))) pda_nil)))) pda_nil)))))
    (pdb_cons (pds_expr (pd_append (pd_var 1) (pd_tup (pda_cons pd_str (pda_cons (pd_repT (pd_tup (pda_cons (pd_tup (pda_cons pd_str (pda_cons pd_str pda_nil))) pda_nil)) pd_int) (pda_cons (pd_tup (pda_cons pd_str (pda_cons pd_int (pda_cons pd_int pda_nil)))) pda_nil))))))
    (pdb_one (pds_ret (pd_tidy (pd_ix (hu_of hr) (pd_var 1) (pd_fn (ok_l_take T) hgd (hr.mono (by decide)) (by rfl) T.m_l_take T.F_l_take.kp (bn_l_take_2 T) (pda_cons (pd_var 0) (pda_cons (pd_callB call_len3 callD_len (by rfl) T.b_len (by decide +kernel) (pda_cons (pd_var 1) pda_nil)) pda_nil))) (fun _ _ => rfl))))))))))))))))))))))))
theorem ok_l_odd (T : Txt base K mg Ad0) : FnG P w K mg base CX0 2 Ad0.a_l_odd Ad0.fd_l_odd ["_law_pool_here"] (FnD K sem_l_odd) :=
  fn_body T.F_l_odd sc_l_odd len_l_odd (pb_l_odd T) okd_l_odd
theorem pb_l_bent (T : Txt base K mg Ad0) (cdv : Value) (A : Around) (outer : List Env) (s : Shared) (H : Hp) (E : XK) (hgd : A.guards = some []) (hr : Room 2 (A.deeper (PyProof.Rows.envOfC "_law_bent" (defScope st_l_bent) s.heap.objs.size Ad0.a_l_bent cdv))) :
    PDB (cxOf CX0 P w K mg base ["_law_pool_here", "_law_contract_here", "_law_shelves", "_law_calls", "_law_at", "_law_spot", "_law_odd_here", "_law_some", "_law_more", "_law_k", "_law_many"] "_law_bent" (defScope st_l_bent) Ad0.a_l_bent cdv A outer s H E).nox (defBody st_l_bent) den_l_bent :=
  (pdb_cons (pds_asg (pd_var 1) (pdg_tup rfl (pdgs_cons (pdg_name (i := 2) sc_l_bent.nd rfl (by first | exact Or.inl rfl | exact Or.inr rfl)) (pdgs_cons (pdg_name (i := 3) sc_l_bent.nd rfl (by first | exact Or.inl rfl | exact Or.inr rfl)) pdgs_nil))))
    (pdb_cons (pds_par (ps_par rfl sc_l_bent.nd (i := 4) (j := 5) rfl rfl (by decide) rfl rfl (pda_cons (pd_fn (ok_l_take T) hgd (hr.mono (by decide)) (by rfl) T.m_l_take T.F_l_take.kp (bn_l_take_2 T) (pda_cons (pd_var 0) (pda_cons (pd_callB call_len3 callD_len (by rfl) T.b_len (by decide +kernel) (pda_cons (pd_var 2) pda_nil)) pda_nil))) (pda_cons (pd_fn (ok_l_take T) hgd (hr.mono (by decide)) (by rfl) T.m_l_take T.F_l_take.kp (bn_l_take_2 T) (pda_cons (pd_var 0) (pda_cons (pd_callB call_len3 callD_len (by rfl) T.b_len (by decide +kernel) (pda_cons (pd_var 3) pda_nil)) pda_nil))) pda_nil)) (by rfl)))
    (pdb_cons (pds_set (i := 6) sc_l_bent.nd rfl (by first | exact Or.inl rfl | exact Or.inr rfl) (pd_fn (ok_l_odd T) hgd (hr.mono (by decide)) (by rfl) T.m_l_odd T.F_l_odd.kp (bn_l_odd_1 T) (pda_cons (pd_var 0) pda_nil)))
    (pdb_cons (pds_set (i := 7) sc_l_bent.nd rfl (by first | exact Or.inl rfl | exact Or.inr rfl) (pd_lstC (pda_cons (pd_tup (pda_cons (pd_var 2) (pda_cons (pd_add (pd_add (pd_slice (pd_var 3) pdo_none (pdo_some (pd_var 5))) (pd_lst (pda_cons (pd_var 6) pda_nil))) (pd_slice (pd_var 3) (pdo_some (pd_add (pd_var 5) pd_int)) pdo_none)) pda_nil))) (pda_cons (pd_tup (pda_cons (pd_var 2) (pda_cons (pd_add (pd_var 3) (pd_lst (pda_cons (pd_var 6) pda_nil))) pda_nil))) pda_nil))))
    (pdb_cons (pds_set (i := 7) sc_l_bent.nd rfl (by first | exact Or.inl rfl | exact Or.inr rfl) (pd_addCel (pd_var 7) (pd_lst (pda_cons (pd_tup (pda_cons (pd_var 2) (pda_cons (pd_add (pd_var 3) (pd_slice (pd_var 3) pdo_none (pdo_some pd_int))) pda_nil))) (pda_cons (pd_tup (pda_cons (pd_add (pd_add (pd_slice (pd_var 2) pdo_none (pdo_some (pd_var 4))) (pd_lst (pda_cons (pd_var 6) pda_nil))) (pd_slice (pd_var 2) (pdo_some (pd_add (pd_var 4) pd_int)) pdo_none)) (pda_cons (pd_var 3) pda_nil))) pda_nil)))))
    (pdb_cons (pds_set (i := 7) sc_l_bent.nd rfl (by first | exact Or.inl rfl | exact Or.inr rfl) (pd_addCel (pd_var 7) (pd_lst (pda_cons (pd_tup (pda_cons (pd_add (pd_var 2) (pd_slice (pd_var 2) pdo_none (pdo_some pd_int))) (pda_cons (pd_var 3) pda_nil))) (pda_cons (pd_tup (pda_cons (pd_callTy call_tuple_of callD_tupOf (by rfl) T.b_tuple (by decide +kernel) (pda_cons (pd_var 2) pda_nil)) (pda_cons (pd_var 3) pda_nil))) pda_nil)))))
    (pdb_cons (pds_set (i := 7) sc_l_bent.nd rfl (by first | exact Or.inl rfl | exact Or.inr rfl) (pd_addCel (pd_var 7) (pd_lst (pda_cons (pd_tup (pda_cons (pd_var 2) (pda_cons (pd_callTy call_tuple_of callD_tupOf (by rfl) T.b_tuple (by decide +kernel) (pda_cons (pd_var 3) pda_nil)) pda_nil))) (pda_cons (pd_lst (pda_cons (pd_var 2) (pda_cons (pd_var 3) pda_nil))) (pda_cons pd_non (pda_cons (pd_tup (pda_cons (pd_var 2) pda_nil)) (pda_cons (pd_tup (pda_cons (pd_var 2) (pda_cons (pd_var 3) (pda_cons (pd_lst pda_nil) pda_nil)))) (pda_cons pd_dnew pda_nil)))))))))
    (pdb_cons (pds_expr (pd_append (pd_var 7) (pd_tup (pda_cons (pd_var 3) (pda_cons (pd_var 2) pda_nil)))))
    (pdb_cons (pds_setLc (i := 8) (g := (.one 9)) rfl sc_l_bent.nd rfl rfl (sw_true rfl rfl rfl (by decide +kernel)) (pdi_range1 (by rfl) T.b_range (pda_cons pd_int pda_nil)) (blkOk_by (N := ["_law_pool_here", "_law_contract_here", "_law_shelves", "_law_calls", "_law_at", "_law_spot", "_law_odd_here", "_law_some", "_law_more", "_law_k", "_law_many"]) (sc := defScope st_l_bent) (own := [("_law_k", 9)]) (by decide +kernel)) rfl (fun _ _ _ _ _ => (pg_name (i := 9) sc_l_bent.nd rfl (by first | exact Or.inl rfl | exact Or.inr rfl))) (fun _ _ _ _ _ => pts_yes) (fun _ _ _ _ _ => (pd_tup (pda_cons (pd_ix (hu_of hr) pd_str (pd_var 9) (fun _ _ => rfl)) (pda_cons (pd_add pd_int (pd_var 9)) pda_nil)))))
    (pdb_cons (pds_set (i := 7) sc_l_bent.nd rfl (by first | exact Or.inl rfl | exact Or.inr rfl) (pd_addCel (pd_var 7) (pd_lst (pda_cons (pd_tup (pda_cons (pd_var 8) (pda_cons (pd_lst pda_nil) pda_nil))) (pda_cons (pd_tup (pda_cons (pd_slice (pd_var 8) pdo_none (pdo_some pd_int)) (pda_cons (pd_lst pda_nil) pda_nil))) (pda_cons (pd_tup (pda_cons (pd_lst pda_nil) (pda_cons (pd_var 3) pda_nil))) (pda_cons (pd_tup (pda_cons (pd_var 2) (pda_cons (pd_lst pda_nil) pda_nil))) pda_nil)))))))
    (pdb_cons (pds_setLc (i := 10) (g := (.one 9)) rfl sc_l_bent.nd rfl rfl (sw_true rfl rfl rfl (by decide +kernel)) (pdi_range1 (by rfl) T.b_range (pda_cons pd_int pda_nil)) (blkOk_by (N := ["_law_pool_here", "_law_contract_here", "_law_shelves", "_law_calls", "_law_at", "_law_spot", "_law_odd_here", "_law_some", "_law_more", "_law_k", "_law_many"]) (sc := defScope st_l_bent) (own := [("_law_k", 9)]) (by decide +kernel)) rfl (fun _ _ _ _ _ => (pg_name (i := 9) sc_l_bent.nd rfl (by first | exact Or.inl rfl | exact Or.inr rfl))) (fun _ _ _ _ _ => pts_yes) (fun _ _ _ _ _ => (pd_tup (pda_cons (pd_ix (hu_of hr) pd_str (pd_var 9) (fun _ _ => rfl)) (pda_cons (pd_tup pda_nil) (pda_cons (pd_tup (pda_cons pd_str (pda_cons (pd_var 9) (pda_cons (pd_var 9) pda_nil)))) pda_nil))))))
    (pdb_one (pds_ret (pd_tidy (pd_ix (hu_of hr) (pd_add (pd_frz (pd_var 7)) (pd_lst (pda_cons (pd_tup (pda_cons (pd_var 2) (pda_cons (pd_var 10) pda_nil))) (pda_cons (pd_tup (pda_cons (pd_var 2) (pda_cons (pd_slice (pd_var 10) pdo_none (pdo_some pd_int)) pda_nil))) pda_nil)))) (pd_fn (ok_l_take T) hgd (hr.mono (by decide)) (by rfl) T.m_l_take T.F_l_take.kp (bn_l_take_2 T) (pda_cons (pd_var 0) (pda_cons pd_int pda_nil))) (fun _ _ => rfl))))))))))))))))
theorem ok_l_bent (T : Txt base K mg Ad0) : FnG P w K mg base CX0 3 Ad0.a_l_bent Ad0.fd_l_bent ["_law_pool_here", "_law_contract_here"] (FnD K sem_l_bent) :=
  fn_body T.F_l_bent sc_l_bent len_l_bent (pb_l_bent T) okd_l_bent
theorem pb_l_call_right (T : Txt base K mg Ad0) (cdv : Value) (A : Around) (outer : List Env) (s : Shared) (H : Hp) (E : XK) (hgd : A.guards = some []) (hr : Room 3 (A.deeper (PyProof.Rows.envOfC "_law_call_right" (defScope st_l_call_right) s.heap.objs.size Ad0.a_l_call_right cdv))) :
    PDB (cxOf CX0 P w K mg base ["_law_contract_here", "_law_name", "_law_own", "_law_takes", "_law_gives", "e"] "_law_call_right" (defScope st_l_call_right) Ad0.a_l_call_right cdv A outer s H E).nox (defBody st_l_call_right) den_l_call_right :=
  (pdb_cons (pds_for PassesOwn.never rfl (pdi_list (pd_ix (hu_of hr) (pd_var 0) pd_int (fun _ _ => rfl))) (pdg_tup rfl (pdgs_cons (pdg_name (i := 2) sc_l_call_right.nd rfl (by first | exact Or.inl rfl | exact Or.inr rfl)) (pdgs_cons (pdg_name (i := 3) sc_l_call_right.nd rfl (by first | exact Or.inl rfl | exact Or.inr rfl)) (pdgs_cons (pdg_name (i := 4) sc_l_call_right.nd rfl (by first | exact Or.inl rfl | exact Or.inr rfl)) pdgs_nil)))) (pdb_one (pds_if (pdt_cmp (opR_or (opR_or op_eq (op_eqD hr.units)) (op_eqW hr.units)) opD_eqW (pd_var 2) (pd_var 1) (nomark _)) (pdb_one (pds_ret (pd_tidy (pd_eq hr.units (pd_fn (FnG.quiet (ok_p_call_of T)) hgd (hr.mono (by decide)) (by rfl) T.m_p_call_of T.F_p_call_of.kp (bn_p_call_of_2 T) (pda_cons (pd_var 0) (pda_cons (pd_var 1) pda_nil))) (pd_tup (pda_cons (pd_var 3) (pda_cons (pd_var 4) pda_nil))))))) pdb_nil)))
    (pdb_cons (pds_tryKeep (i := 5) (sub := subT_NoCall) rfl rfl rfl sc_l_call_right.nd rfl rfl ⟨rfl, by decide, .inl T.g_NoCall⟩ (sub_NoCall T) (cl_NoCall T) (fun pn xe po => (pdb_one (pds_exprX (pdx_fn (ok_p_call_of T) hgd (hr.mono (by decide)) (by rfl) T.m_p_call_of T.F_p_call_of.kp (bn_p_call_of_2 T) (pda_cons (pd_var 0) (pda_cons (pd_var 1) pda_nil)))))) (fun a pn => (pdb_one (pds_ret (pd_tidy (pd_and (pd_eq hr.units (pd_callB (call_reprE hgd hr.units) callD_reprE (by rfl) T.b_repr (by decide +kernel) (pda_cons (pd_xF (okx := fldT_name) (pd_var 5) (fld_ok_name T)) pda_nil)) (pd_callB (call_reprE hgd hr.units) callD_reprE (by rfl) T.b_repr (by decide +kernel) (pda_cons (pd_var 1) pda_nil))) (pd_and (pd_isX (ob := isK_KeyError) (by rfl) T.b_isinstance (pd_var 5) (clsN_ty (n := "KeyError") (by rfl) T.b_KeyError (by decide +kernel)) (isK_ok_KeyError T)) (pd_one (pd_not (pd_isX (ob := isK_GateError) (by rfl) T.b_isinstance (pd_var 5) (clsN_own (by rfl) T.g_GateError) (isK_ok_GateError T)))))))))))
    (pdb_one (pds_ret (pd_tidy pd_bl)))))
theorem ok_l_call_right (T : Txt base K mg Ad0) : FnG P w K mg base CX0 4 Ad0.a_l_call_right Ad0.fd_l_call_right ["_law_contract_here", "_law_name"] (FnD K sem_l_call_right) :=
  fn_body T.F_l_call_right sc_l_call_right len_l_call_right (pb_l_call_right T) okd_l_call_right
theorem pb_p_law (T : Txt base K mg Ad0) (cdv : Value) (A : Around) (outer : List Env) (s : Shared) (H : Hp) (E : XK) (hgd : A.guards = some []) (hr : Room 9 (A.deeper (PyProof.Rows.envOfC "law" (defScope st_p_law) s.heap.objs.size Ad0.a_p_law cdv))) :
    PDB (cxOf CX0 P w K mg base ["_law_script", "_law_k", "_law_pool_here", "_law_contract_here", "_law_thing", "_law_kept", "_law_name"] "law" (defScope st_p_law) Ad0.a_p_law cdv A outer s H E).nox (defBody st_p_law) den_p_law :=
  (pdb_cons (pds_for PassesOwn.never rfl (pdi_range1 (by rfl) T.b_range (pda_cons (pd_callB (call_max2 rfl) callD_max (by rfl) T.b_max (by decide +kernel) (pda_cons pd_int (pda_cons (pd_callB (call_min2 rfl) callD_min (by rfl) T.b_min (by decide +kernel) (pda_cons (pd_callB call_len3 callD_len (by rfl) T.b_len (by decide +kernel) (pda_cons (pd_var 0) pda_nil)) (pda_cons pd_int pda_nil))) pda_nil))) pda_nil)) (pdg_name (i := 1) sc_p_law.nd rfl (by first | exact Or.inl rfl | exact Or.inr rfl)) (pdb_cons (pds_set (i := 2) sc_p_law.nd rfl (by first | exact Or.inl rfl | exact Or.inr rfl) (pd_fn (ok_l_pool T) hgd (hr.mono (by decide)) (by rfl) T.m_l_pool T.F_l_pool.kp (bn_l_pool_2 T) (pda_cons (pd_var 0) (pda_cons (pd_var 1) pda_nil))))
    (pdb_cons (pds_set (i := 3) sc_p_law.nd rfl (by first | exact Or.inl rfl | exact Or.inr rfl) (pd_fn (ok_l_contract T) hgd (hr.mono (by decide)) (by rfl) T.m_l_contract T.F_l_contract.kp (bn_l_contract_1 T) (pda_cons (pd_var 2) pda_nil)))
    (pdb_cons (pds_for PassesOwn.never rfl (pdi_list (pd_lst (pda_cons (pd_var 3) (pda_cons (pd_fn (ok_l_bent T) hgd (hr.mono (by decide)) (by rfl) T.m_l_bent T.F_l_bent.kp (bn_l_bent_2 T) (pda_cons (pd_var 2) (pda_cons (pd_var 3) pda_nil))) (pda_cons (pd_fn (ok_l_bent T) hgd (hr.mono (by decide)) (by rfl) T.m_l_bent T.F_l_bent.kp (bn_l_bent_2 T) (pda_cons (pd_var 2) (pda_cons (pd_var 3) pda_nil))) (pda_cons (pd_fn (ok_l_bent T) hgd (hr.mono (by decide)) (by rfl) T.m_l_bent T.F_l_bent.kp (bn_l_bent_2 T) (pda_cons (pd_var 2) (pda_cons (pd_var 3) pda_nil))) pda_nil)))))) (pdg_name (i := 4) sc_p_law.nd rfl (by first | exact Or.inl rfl | exact Or.inr rfl)) (pdb_cons (pds_set (i := 5) sc_p_law.nd rfl (by first | exact Or.inl rfl | exact Or.inr rfl) (pd_callB (call_reprE hgd hr.units) callD_reprE (by rfl) T.b_repr (by decide +kernel) (pda_cons (pd_var 4) pda_nil)))
    (pdb_one (pds_if (pdt_w (pdw_or (pdt_cmp (opR_or op_ne (op_neD hr.units)) opD_ne (pd_fn (ok_l_told T) hgd (hr.mono (by decide)) (by rfl) T.m_l_told T.F_l_told.kp (bn_l_told_1 T) (pda_cons (pd_var 4) pda_nil)) (pd_fn (ok_l_due T) hgd (hr.mono (by decide)) (by rfl) T.m_l_due T.F_l_due.kp (bn_l_due_1 T) (pda_cons (pd_var 4) pda_nil)) (nomark _)) (pdw_one_or (pdt_cmp (opR_or op_ne (op_neD hr.units)) opD_ne (pd_callB (call_reprE hgd hr.units) callD_reprE (by rfl) T.b_repr (by decide +kernel) (pda_cons (pd_var 4) pda_nil)) (pd_var 5) (nomark _))))) (pdb_one (pds_ret pd_bl)) pdb_nil))))
    (pdb_one (pds_for PassesOwn.never rfl (pdi_list (pd_lst (pda_cons pd_str (pda_cons pd_str (pda_cons pd_str (pda_cons pd_str (pda_cons pd_str (pda_cons pd_str (pda_cons pd_str (pda_cons pd_non (pda_cons pd_int (pda_cons pd_bl (pda_cons (pd_lst (pda_cons pd_str pda_nil)) (pda_cons (pd_tup (pda_cons pd_str pda_nil)) (pda_cons pd_dnew pda_nil))))))))))))))) (pdg_name (i := 6) sc_p_law.nd rfl (by first | exact Or.inl rfl | exact Or.inr rfl)) (pdb_one (pds_if (pdt_not (pdt_of (pd_fn (ok_l_call_right T) hgd (hr.mono (by decide)) (by rfl) T.m_l_call_right T.F_l_call_right.kp (bn_l_call_right_2 T) (pda_cons (pd_var 3) (pda_cons (pd_var 6) pda_nil))))) (pdb_one (pds_ret pd_bl)) pdb_nil))))))))
    (pdb_one (pds_ret pd_bl)))
theorem ok_p_law (T : Txt base K mg Ad0) : FnG P w K mg base CX0 10 Ad0.a_p_law Ad0.fd_p_law ["_law_script"] (FnD K sem_p_law) :=
  fn_body T.F_p_law sc_p_law len_p_law (pb_p_law T) okd_p_law
end
theorem all_mk {l : PySem.W.OpenLaw} {w : World} {K : PySem.W.Frag} {h : Heap} {mg : Str → Option Value} {fa : Addr} (X : K.In h) (G : h.Ns mainGlobals mg) (hfa : mg "law" = some (.ref fa))
    {tc tT : Addr}
    {f_p_is_whole : Addr} {od_p_is_whole an_p_is_whole : Option Addr} {sl_p_is_whole : Array (Option Value)} {oc_p_is_whole kV_p_is_whole dc_p_is_whole pm_p_is_whole cd_p_is_whole ct_p_is_whole : Value}
    {f_p_is_worth : Addr} {od_p_is_worth an_p_is_worth : Option Addr} {sl_p_is_worth : Array (Option Value)} {oc_p_is_worth dc_p_is_worth pm_p_is_worth cd_p_is_worth ct_p_is_worth : Value}
    {f_p_is_name : Addr} {od_p_is_name an_p_is_name : Option Addr} {sl_p_is_name : Array (Option Value)} {oc_p_is_name kV_p_is_name dc_p_is_name pm_p_is_name cd_p_is_name ct_p_is_name : Value}
    {f_p_is_many : Addr} {od_p_is_many an_p_is_many : Option Addr} {sl_p_is_many : Array (Option Value)} {oc_p_is_many kV_p_is_many dc_p_is_many pm_p_is_many cd_p_is_many ct_p_is_many : Value}
    {f_p_are_bounds : Addr} {od_p_are_bounds an_p_are_bounds : Option Addr} {sl_p_are_bounds : Array (Option Value)} {oc_p_are_bounds kV_p_are_bounds dc_p_are_bounds pm_p_are_bounds cd_p_are_bounds ct_p_are_bounds : Value}
    {f_p_is_of_shelf : Addr} {od_p_is_of_shelf an_p_is_of_shelf : Option Addr} {sl_p_is_of_shelf : Array (Option Value)} {oc_p_is_of_shelf kV_p_is_of_shelf dc_p_is_of_shelf pm_p_is_of_shelf cd_p_is_of_shelf ct_p_is_of_shelf : Value}
    {f_p_is_take : Addr} {od_p_is_take an_p_is_take : Option Addr} {sl_p_is_take : Array (Option Value)} {oc_p_is_take kV_p_is_take dc_p_is_take pm_p_is_take cd_p_is_take ct_p_is_take : Value}
    {f_p_is_given : Addr} {od_p_is_given an_p_is_given : Option Addr} {sl_p_is_given : Array (Option Value)} {oc_p_is_given kV_p_is_given dc_p_is_given pm_p_is_given cd_p_is_given ct_p_is_given : Value}
    {f_p_is_shelf : Addr} {od_p_is_shelf an_p_is_shelf : Option Addr} {sl_p_is_shelf : Array (Option Value)} {oc_p_is_shelf kV_p_is_shelf dc_p_is_shelf pm_p_is_shelf cd_p_is_shelf ct_p_is_shelf : Value}
    {f_p_is_call : Addr} {od_p_is_call an_p_is_call : Option Addr} {sl_p_is_call : Array (Option Value)} {oc_p_is_call kV_p_is_call dc_p_is_call pm_p_is_call cd_p_is_call ct_p_is_call : Value}
    {f_p_look_at_part : Addr} {od_p_look_at_part an_p_look_at_part : Option Addr} {sl_p_look_at_part : Array (Option Value)} {oc_p_look_at_part kV_p_look_at_part dc_p_look_at_part pm_p_look_at_part cd_p_look_at_part ct_p_look_at_part : Value}
    {f_p_look_at_contract : Addr} {od_p_look_at_contract an_p_look_at_contract : Option Addr} {sl_p_look_at_contract : Array (Option Value)} {oc_p_look_at_contract kV_p_look_at_contract dc_p_look_at_contract pm_p_look_at_contract ct_p_look_at_contract : Value}
    {f_p_call_of : Addr} {od_p_call_of an_p_call_of : Option Addr} {sl_p_call_of : Array (Option Value)} {oc_p_call_of kV_p_call_of dc_p_call_of pm_p_call_of cd_p_call_of ct_p_call_of : Value}
    {f_l_pool : Addr} {od_l_pool an_l_pool : Option Addr} {sl_l_pool : Array (Option Value)} {oc_l_pool kV_l_pool dc_l_pool pm_l_pool cd_l_pool ct_l_pool : Value}
    {f_l_take : Addr} {od_l_take an_l_take : Option Addr} {sl_l_take : Array (Option Value)} {oc_l_take kV_l_take dc_l_take pm_l_take cd_l_take ct_l_take : Value}
    {f_l_bounds : Addr} {od_l_bounds an_l_bounds : Option Addr} {sl_l_bounds : Array (Option Value)} {oc_l_bounds kV_l_bounds dc_l_bounds pm_l_bounds cd_l_bounds ct_l_bounds : Value}
    {f_l_contract : Addr} {od_l_contract an_l_contract : Option Addr} {sl_l_contract : Array (Option Value)} {oc_l_contract kV_l_contract dc_l_contract pm_l_contract cd_l_contract ct_l_contract : Value}
    {f_l_whole : Addr} {od_l_whole an_l_whole : Option Addr} {sl_l_whole : Array (Option Value)} {oc_l_whole kV_l_whole dc_l_whole pm_l_whole cd_l_whole ct_l_whole : Value}
    {f_l_is_name : Addr} {od_l_is_name an_l_is_name : Option Addr} {sl_l_is_name : Array (Option Value)} {oc_l_is_name kV_l_is_name dc_l_is_name pm_l_is_name cd_l_is_name ct_l_is_name : Value}
    {f_l_is_tuple : Addr} {od_l_is_tuple an_l_is_tuple : Option Addr} {sl_l_is_tuple : Array (Option Value)} {oc_l_is_tuple kV_l_is_tuple dc_l_is_tuple pm_l_is_tuple cd_l_is_tuple ct_l_is_tuple : Value}
    {f_l_is_span : Addr} {od_l_is_span an_l_is_span : Option Addr} {sl_l_is_span : Array (Option Value)} {oc_l_is_span kV_l_is_span dc_l_is_span pm_l_is_span cd_l_is_span ct_l_is_span : Value}
    {f_l_is_take : Addr} {od_l_is_take an_l_is_take : Option Addr} {sl_l_is_take : Array (Option Value)} {oc_l_is_take kV_l_is_take dc_l_is_take pm_l_is_take cd_l_is_take ct_l_is_take : Value}
    {f_l_is_call : Addr} {od_l_is_call an_l_is_call : Option Addr} {sl_l_is_call : Array (Option Value)} {oc_l_is_call kV_l_is_call dc_l_is_call pm_l_is_call cd_l_is_call ct_l_is_call : Value}
    {f_l_is_shelf : Addr} {od_l_is_shelf an_l_is_shelf : Option Addr} {sl_l_is_shelf : Array (Option Value)} {oc_l_is_shelf kV_l_is_shelf dc_l_is_shelf pm_l_is_shelf cd_l_is_shelf ct_l_is_shelf : Value}
    {f_l_due : Addr} {od_l_due an_l_due : Option Addr} {sl_l_due : Array (Option Value)} {oc_l_due kV_l_due dc_l_due pm_l_due cd_l_due ct_l_due : Value}
    {f_l_told : Addr} {od_l_told an_l_told : Option Addr} {sl_l_told : Array (Option Value)} {oc_l_told kV_l_told dc_l_told pm_l_told cd_l_told ct_l_told : Value}
    {f_l_odd : Addr} {od_l_odd an_l_odd : Option Addr} {sl_l_odd : Array (Option Value)} {oc_l_odd kV_l_odd dc_l_odd pm_l_odd cd_l_odd ct_l_odd : Value}
    {f_l_bent : Addr} {od_l_bent an_l_bent : Option Addr} {sl_l_bent : Array (Option Value)} {oc_l_bent kV_l_bent dc_l_bent pm_l_bent cd_l_bent ct_l_bent : Value}
    {f_l_call_right : Addr} {od_l_call_right an_l_call_right : Option Addr} {sl_l_call_right : Array (Option Value)} {oc_l_call_right kV_l_call_right dc_l_call_right pm_l_call_right cd_l_call_right ct_l_call_right : Value}
    {f_p_law : Addr} {od_p_law an_p_law : Option Addr} {sl_p_law : Array (Option Value)} {oc_p_law kV_p_law dc_p_law pm_p_law cd_p_law ct_p_law : Value}
    (a_p_is_whole : PySem.W.nsIn K mainGlobals "is_whole" = some (some (.ref f_p_is_whole)))
    (l_p_is_whole : K.lookup f_p_is_whole = some ⟨oc_p_is_whole, od_p_is_whole, .func (PySem.W.fnOf "is_whole" "is_whole" (defArgs st_p_is_whole) (defBody st_p_is_whole) (defScope st_p_is_whole) .none kV_p_is_whole dc_p_is_whole pm_p_is_whole an_p_is_whole cd_p_is_whole ct_p_is_whole), sl_p_is_whole⟩)
    (c_p_is_whole : PySem.W.codeIn K cd_p_is_whole "is_whole" = true) (k_p_is_whole : PySem.W.keepIn K (.ref f_p_is_whole) = true)
    {kd_p_is_worth : Addr}
    (a_p_is_worth : PySem.W.nsIn K mainGlobals "is_worth" = some (some (.ref f_p_is_worth)))
    (l_p_is_worth : K.lookup f_p_is_worth = some ⟨oc_p_is_worth, od_p_is_worth, .func (PySem.W.fnOf "is_worth" "is_worth" (defArgs st_p_is_worth) (defBody st_p_is_worth) (defScope st_p_is_worth) .none (.ref kd_p_is_worth) dc_p_is_worth pm_p_is_worth an_p_is_worth cd_p_is_worth ct_p_is_worth), sl_p_is_worth⟩)
    (c_p_is_worth : PySem.W.codeIn K cd_p_is_worth "is_worth" = true) (k_p_is_worth : PySem.W.keepIn K (.ref f_p_is_worth) = true)
    {u_p_is_worth_wide : Value} (q_p_is_worth_wide : PySem.W.nsIn K kd_p_is_worth "wide" = some (some u_p_is_worth_wide)) (r_p_is_worth_wide : RelV (.int 16) u_p_is_worth_wide)
    (a_p_is_name : PySem.W.nsIn K mainGlobals "is_name" = some (some (.ref f_p_is_name)))
    (l_p_is_name : K.lookup f_p_is_name = some ⟨oc_p_is_name, od_p_is_name, .func (PySem.W.fnOf "is_name" "is_name" (defArgs st_p_is_name) (defBody st_p_is_name) (defScope st_p_is_name) .none kV_p_is_name dc_p_is_name pm_p_is_name an_p_is_name cd_p_is_name ct_p_is_name), sl_p_is_name⟩)
    (c_p_is_name : PySem.W.codeIn K cd_p_is_name "is_name" = true) (k_p_is_name : PySem.W.keepIn K (.ref f_p_is_name) = true)
    (a_p_is_many : PySem.W.nsIn K mainGlobals "is_many" = some (some (.ref f_p_is_many)))
    (l_p_is_many : K.lookup f_p_is_many = some ⟨oc_p_is_many, od_p_is_many, .func (PySem.W.fnOf "is_many" "is_many" (defArgs st_p_is_many) (defBody st_p_is_many) (defScope st_p_is_many) .none kV_p_is_many dc_p_is_many pm_p_is_many an_p_is_many cd_p_is_many ct_p_is_many), sl_p_is_many⟩)
    (c_p_is_many : PySem.W.codeIn K cd_p_is_many "is_many" = true) (k_p_is_many : PySem.W.keepIn K (.ref f_p_is_many) = true)
    (a_p_are_bounds : PySem.W.nsIn K mainGlobals "are_bounds" = some (some (.ref f_p_are_bounds)))
    (l_p_are_bounds : K.lookup f_p_are_bounds = some ⟨oc_p_are_bounds, od_p_are_bounds, .func (PySem.W.fnOf "are_bounds" "are_bounds" (defArgs st_p_are_bounds) (defBody st_p_are_bounds) (defScope st_p_are_bounds) .none kV_p_are_bounds dc_p_are_bounds pm_p_are_bounds an_p_are_bounds cd_p_are_bounds ct_p_are_bounds), sl_p_are_bounds⟩)
    (c_p_are_bounds : PySem.W.codeIn K cd_p_are_bounds "are_bounds" = true) (k_p_are_bounds : PySem.W.keepIn K (.ref f_p_are_bounds) = true)
    (a_p_is_of_shelf : PySem.W.nsIn K mainGlobals "is_of_shelf" = some (some (.ref f_p_is_of_shelf)))
    (l_p_is_of_shelf : K.lookup f_p_is_of_shelf = some ⟨oc_p_is_of_shelf, od_p_is_of_shelf, .func (PySem.W.fnOf "is_of_shelf" "is_of_shelf" (defArgs st_p_is_of_shelf) (defBody st_p_is_of_shelf) (defScope st_p_is_of_shelf) .none kV_p_is_of_shelf dc_p_is_of_shelf pm_p_is_of_shelf an_p_is_of_shelf cd_p_is_of_shelf ct_p_is_of_shelf), sl_p_is_of_shelf⟩)
    (c_p_is_of_shelf : PySem.W.codeIn K cd_p_is_of_shelf "is_of_shelf" = true) (k_p_is_of_shelf : PySem.W.keepIn K (.ref f_p_is_of_shelf) = true)
    (a_p_is_take : PySem.W.nsIn K mainGlobals "is_take" = some (some (.ref f_p_is_take)))
    (l_p_is_take : K.lookup f_p_is_take = some ⟨oc_p_is_take, od_p_is_take, .func (PySem.W.fnOf "is_take" "is_take" (defArgs st_p_is_take) (defBody st_p_is_take) (defScope st_p_is_take) .none kV_p_is_take dc_p_is_take pm_p_is_take an_p_is_take cd_p_is_take ct_p_is_take), sl_p_is_take⟩)
    (c_p_is_take : PySem.W.codeIn K cd_p_is_take "is_take" = true) (k_p_is_take : PySem.W.keepIn K (.ref f_p_is_take) = true)
    (a_p_is_given : PySem.W.nsIn K mainGlobals "is_given" = some (some (.ref f_p_is_given)))
    (l_p_is_given : K.lookup f_p_is_given = some ⟨oc_p_is_given, od_p_is_given, .func (PySem.W.fnOf "is_given" "is_given" (defArgs st_p_is_given) (defBody st_p_is_given) (defScope st_p_is_given) .none kV_p_is_given dc_p_is_given pm_p_is_given an_p_is_given cd_p_is_given ct_p_is_given), sl_p_is_given⟩)
    (c_p_is_given : PySem.W.codeIn K cd_p_is_given "is_given" = true) (k_p_is_given : PySem.W.keepIn K (.ref f_p_is_given) = true)
    (a_p_is_shelf : PySem.W.nsIn K mainGlobals "is_shelf" = some (some (.ref f_p_is_shelf)))
    (l_p_is_shelf : K.lookup f_p_is_shelf = some ⟨oc_p_is_shelf, od_p_is_shelf, .func (PySem.W.fnOf "is_shelf" "is_shelf" (defArgs st_p_is_shelf) (defBody st_p_is_shelf) (defScope st_p_is_shelf) .none kV_p_is_shelf dc_p_is_shelf pm_p_is_shelf an_p_is_shelf cd_p_is_shelf ct_p_is_shelf), sl_p_is_shelf⟩)
    (c_p_is_shelf : PySem.W.codeIn K cd_p_is_shelf "is_shelf" = true) (k_p_is_shelf : PySem.W.keepIn K (.ref f_p_is_shelf) = true)
    (a_p_is_call : PySem.W.nsIn K mainGlobals "is_call" = some (some (.ref f_p_is_call)))
    (l_p_is_call : K.lookup f_p_is_call = some ⟨oc_p_is_call, od_p_is_call, .func (PySem.W.fnOf "is_call" "is_call" (defArgs st_p_is_call) (defBody st_p_is_call) (defScope st_p_is_call) .none kV_p_is_call dc_p_is_call pm_p_is_call an_p_is_call cd_p_is_call ct_p_is_call), sl_p_is_call⟩)
    (c_p_is_call : PySem.W.codeIn K cd_p_is_call "is_call" = true) (k_p_is_call : PySem.W.keepIn K (.ref f_p_is_call) = true)
    (a_p_look_at_part : PySem.W.nsIn K mainGlobals "look_at_part" = some (some (.ref f_p_look_at_part)))
    (l_p_look_at_part : K.lookup f_p_look_at_part = some ⟨oc_p_look_at_part, od_p_look_at_part, .func (PySem.W.fnOf "look_at_part" "look_at_part" (defArgs st_p_look_at_part) (defBody st_p_look_at_part) (defScope st_p_look_at_part) .none kV_p_look_at_part dc_p_look_at_part pm_p_look_at_part an_p_look_at_part cd_p_look_at_part ct_p_look_at_part), sl_p_look_at_part⟩)
    (c_p_look_at_part : PySem.W.codeIn K cd_p_look_at_part "look_at_part" = true) (k_p_look_at_part : PySem.W.keepIn K (.ref f_p_look_at_part) = true)
    (a_p_look_at_contract : PySem.W.nsIn K mainGlobals "look_at_contract" = some (some (.ref f_p_look_at_contract)))
    (l_p_look_at_contract : K.lookup f_p_look_at_contract = some ⟨oc_p_look_at_contract, od_p_look_at_contract, .func (PySem.W.fnOf "look_at_contract" "look_at_contract" (defArgs st_p_look_at_contract) (defBody st_p_look_at_contract) (defScope st_p_look_at_contract) .none kV_p_look_at_contract dc_p_look_at_contract pm_p_look_at_contract an_p_look_at_contract (.ref tc) ct_p_look_at_contract), sl_p_look_at_contract⟩)
    (c_p_look_at_contract : PySem.W.codeIn K (.ref tc) "look_at_contract" = true) (k_p_look_at_contract : PySem.W.keepIn K (.ref f_p_look_at_contract) = true)
    (a_p_call_of : PySem.W.nsIn K mainGlobals "call_of" = some (some (.ref f_p_call_of)))
    (l_p_call_of : K.lookup f_p_call_of = some ⟨oc_p_call_of, od_p_call_of, .func (PySem.W.fnOf "call_of" "call_of" (defArgs st_p_call_of) (defBody st_p_call_of) (defScope st_p_call_of) .none kV_p_call_of dc_p_call_of pm_p_call_of an_p_call_of cd_p_call_of ct_p_call_of), sl_p_call_of⟩)
    (c_p_call_of : PySem.W.codeIn K cd_p_call_of "call_of" = true) (k_p_call_of : PySem.W.keepIn K (.ref f_p_call_of) = true)
    (a_l_pool : PySem.W.nsIn K mainGlobals "_law_pool" = some (some (.ref f_l_pool)))
    (l_l_pool : K.lookup f_l_pool = some ⟨oc_l_pool, od_l_pool, .func (PySem.W.fnOf "_law_pool" "_law_pool" (defArgs st_l_pool) (defBody st_l_pool) (defScope st_l_pool) .none kV_l_pool dc_l_pool pm_l_pool an_l_pool cd_l_pool ct_l_pool), sl_l_pool⟩)
    (c_l_pool : PySem.W.codeIn K cd_l_pool "_law_pool" = true) (k_l_pool : PySem.W.keepIn K (.ref f_l_pool) = true)
    (a_l_take : PySem.W.nsIn K mainGlobals "_law_take" = some (some (.ref f_l_take)))
    (l_l_take : K.lookup f_l_take = some ⟨oc_l_take, od_l_take, .func (PySem.W.fnOf "_law_take" "_law_take" (defArgs st_l_take) (defBody st_l_take) (defScope st_l_take) .none kV_l_take dc_l_take pm_l_take an_l_take cd_l_take ct_l_take), sl_l_take⟩)
    (c_l_take : PySem.W.codeIn K cd_l_take "_law_take" = true) (k_l_take : PySem.W.keepIn K (.ref f_l_take) = true)
    (a_l_bounds : PySem.W.nsIn K mainGlobals "_law_bounds" = some (some (.ref f_l_bounds)))
    (l_l_bounds : K.lookup f_l_bounds = some ⟨oc_l_bounds, od_l_bounds, .func (PySem.W.fnOf "_law_bounds" "_law_bounds" (defArgs st_l_bounds) (defBody st_l_bounds) (defScope st_l_bounds) .none kV_l_bounds dc_l_bounds pm_l_bounds an_l_bounds cd_l_bounds ct_l_bounds), sl_l_bounds⟩)
    (c_l_bounds : PySem.W.codeIn K cd_l_bounds "_law_bounds" = true) (k_l_bounds : PySem.W.keepIn K (.ref f_l_bounds) = true)
    (a_l_contract : PySem.W.nsIn K mainGlobals "_law_contract" = some (some (.ref f_l_contract)))
    (l_l_contract : K.lookup f_l_contract = some ⟨oc_l_contract, od_l_contract, .func (PySem.W.fnOf "_law_contract" "_law_contract" (defArgs st_l_contract) (defBody st_l_contract) (defScope st_l_contract) .none kV_l_contract dc_l_contract pm_l_contract an_l_contract cd_l_contract ct_l_contract), sl_l_contract⟩)
    (c_l_contract : PySem.W.codeIn K cd_l_contract "_law_contract" = true) (k_l_contract : PySem.W.keepIn K (.ref f_l_contract) = true)
    (a_l_whole : PySem.W.nsIn K mainGlobals "_law_whole" = some (some (.ref f_l_whole)))
    (l_l_whole : K.lookup f_l_whole = some ⟨oc_l_whole, od_l_whole, .func (PySem.W.fnOf "_law_whole" "_law_whole" (defArgs st_l_whole) (defBody st_l_whole) (defScope st_l_whole) .none kV_l_whole dc_l_whole pm_l_whole an_l_whole cd_l_whole ct_l_whole), sl_l_whole⟩)
    (c_l_whole : PySem.W.codeIn K cd_l_whole "_law_whole" = true) (k_l_whole : PySem.W.keepIn K (.ref f_l_whole) = true)
    (a_l_is_name : PySem.W.nsIn K mainGlobals "_law_is_name" = some (some (.ref f_l_is_name)))
    (l_l_is_name : K.lookup f_l_is_name = some ⟨oc_l_is_name, od_l_is_name, .func (PySem.W.fnOf "_law_is_name" "_law_is_name" (defArgs st_l_is_name) (defBody st_l_is_name) (defScope st_l_is_name) .none kV_l_is_name dc_l_is_name pm_l_is_name an_l_is_name cd_l_is_name ct_l_is_name), sl_l_is_name⟩)
    (c_l_is_name : PySem.W.codeIn K cd_l_is_name "_law_is_name" = true) (k_l_is_name : PySem.W.keepIn K (.ref f_l_is_name) = true)
    (a_l_is_tuple : PySem.W.nsIn K mainGlobals "_law_is_tuple" = some (some (.ref f_l_is_tuple)))
    (l_l_is_tuple : K.lookup f_l_is_tuple = some ⟨oc_l_is_tuple, od_l_is_tuple, .func (PySem.W.fnOf "_law_is_tuple" "_law_is_tuple" (defArgs st_l_is_tuple) (defBody st_l_is_tuple) (defScope st_l_is_tuple) .none kV_l_is_tuple dc_l_is_tuple pm_l_is_tuple an_l_is_tuple cd_l_is_tuple ct_l_is_tuple), sl_l_is_tuple⟩)
    (c_l_is_tuple : PySem.W.codeIn K cd_l_is_tuple "_law_is_tuple" = true) (k_l_is_tuple : PySem.W.keepIn K (.ref f_l_is_tuple) = true)
    (a_l_is_span : PySem.W.nsIn K mainGlobals "_law_is_span" = some (some (.ref f_l_is_span)))
    (l_l_is_span : K.lookup f_l_is_span = some ⟨oc_l_is_span, od_l_is_span, .func (PySem.W.fnOf "_law_is_span" "_law_is_span" (defArgs st_l_is_span) (defBody st_l_is_span) (defScope st_l_is_span) .none kV_l_is_span dc_l_is_span pm_l_is_span an_l_is_span cd_l_is_span ct_l_is_span), sl_l_is_span⟩)
    (c_l_is_span : PySem.W.codeIn K cd_l_is_span "_law_is_span" = true) (k_l_is_span : PySem.W.keepIn K (.ref f_l_is_span) = true)
    (a_l_is_take : PySem.W.nsIn K mainGlobals "_law_is_take" = some (some (.ref f_l_is_take)))
    (l_l_is_take : K.lookup f_l_is_take = some ⟨oc_l_is_take, od_l_is_take, .func (PySem.W.fnOf "_law_is_take" "_law_is_take" (defArgs st_l_is_take) (defBody st_l_is_take) (defScope st_l_is_take) .none kV_l_is_take dc_l_is_take pm_l_is_take an_l_is_take cd_l_is_take ct_l_is_take), sl_l_is_take⟩)
    (c_l_is_take : PySem.W.codeIn K cd_l_is_take "_law_is_take" = true) (k_l_is_take : PySem.W.keepIn K (.ref f_l_is_take) = true)
    (a_l_is_call : PySem.W.nsIn K mainGlobals "_law_is_call" = some (some (.ref f_l_is_call)))
    (l_l_is_call : K.lookup f_l_is_call = some ⟨oc_l_is_call, od_l_is_call, .func (PySem.W.fnOf "_law_is_call" "_law_is_call" (defArgs st_l_is_call) (defBody st_l_is_call) (defScope st_l_is_call) .none kV_l_is_call dc_l_is_call pm_l_is_call an_l_is_call cd_l_is_call ct_l_is_call), sl_l_is_call⟩)
    (c_l_is_call : PySem.W.codeIn K cd_l_is_call "_law_is_call" = true) (k_l_is_call : PySem.W.keepIn K (.ref f_l_is_call) = true)
    (a_l_is_shelf : PySem.W.nsIn K mainGlobals "_law_is_shelf" = some (some (.ref f_l_is_shelf)))
    (l_l_is_shelf : K.lookup f_l_is_shelf = some ⟨oc_l_is_shelf, od_l_is_shelf, .func (PySem.W.fnOf "_law_is_shelf" "_law_is_shelf" (defArgs st_l_is_shelf) (defBody st_l_is_shelf) (defScope st_l_is_shelf) .none kV_l_is_shelf dc_l_is_shelf pm_l_is_shelf an_l_is_shelf cd_l_is_shelf ct_l_is_shelf), sl_l_is_shelf⟩)
    (c_l_is_shelf : PySem.W.codeIn K cd_l_is_shelf "_law_is_shelf" = true) (k_l_is_shelf : PySem.W.keepIn K (.ref f_l_is_shelf) = true)
    (a_l_due : PySem.W.nsIn K mainGlobals "_law_due" = some (some (.ref f_l_due)))
    (l_l_due : K.lookup f_l_due = some ⟨oc_l_due, od_l_due, .func (PySem.W.fnOf "_law_due" "_law_due" (defArgs st_l_due) (defBody st_l_due) (defScope st_l_due) .none kV_l_due dc_l_due pm_l_due an_l_due cd_l_due ct_l_due), sl_l_due⟩)
    (c_l_due : PySem.W.codeIn K cd_l_due "_law_due" = true) (k_l_due : PySem.W.keepIn K (.ref f_l_due) = true)
    (a_l_told : PySem.W.nsIn K mainGlobals "_law_told" = some (some (.ref f_l_told)))
    (l_l_told : K.lookup f_l_told = some ⟨oc_l_told, od_l_told, .func (PySem.W.fnOf "_law_told" "_law_told" (defArgs st_l_told) (defBody st_l_told) (defScope st_l_told) .none kV_l_told dc_l_told pm_l_told an_l_told cd_l_told ct_l_told), sl_l_told⟩)
    (c_l_told : PySem.W.codeIn K cd_l_told "_law_told" = true) (k_l_told : PySem.W.keepIn K (.ref f_l_told) = true)
    (a_l_odd : PySem.W.nsIn K mainGlobals "_law_odd" = some (some (.ref f_l_odd)))
    (l_l_odd : K.lookup f_l_odd = some ⟨oc_l_odd, od_l_odd, .func (PySem.W.fnOf "_law_odd" "_law_odd" (defArgs st_l_odd) (defBody st_l_odd) (defScope st_l_odd) .none kV_l_odd dc_l_odd pm_l_odd an_l_odd cd_l_odd ct_l_odd), sl_l_odd⟩)
    (c_l_odd : PySem.W.codeIn K cd_l_odd "_law_odd" = true) (k_l_odd : PySem.W.keepIn K (.ref f_l_odd) = true)
    (a_l_bent : PySem.W.nsIn K mainGlobals "_law_bent" = some (some (.ref f_l_bent)))
    (l_l_bent : K.lookup f_l_bent = some ⟨oc_l_bent, od_l_bent, .func (PySem.W.fnOf "_law_bent" "_law_bent" (defArgs st_l_bent) (defBody st_l_bent) (defScope st_l_bent) .none kV_l_bent dc_l_bent pm_l_bent an_l_bent cd_l_bent ct_l_bent), sl_l_bent⟩)
    (c_l_bent : PySem.W.codeIn K cd_l_bent "_law_bent" = true) (k_l_bent : PySem.W.keepIn K (.ref f_l_bent) = true)
    (a_l_call_right : PySem.W.nsIn K mainGlobals "_law_call_right" = some (some (.ref f_l_call_right)))
    (l_l_call_right : K.lookup f_l_call_right = some ⟨oc_l_call_right, od_l_call_right, .func (PySem.W.fnOf "_law_call_right" "_law_call_right" (defArgs st_l_call_right) (defBody st_l_call_right) (defScope st_l_call_right) .none kV_l_call_right dc_l_call_right pm_l_call_right an_l_call_right cd_l_call_right ct_l_call_right), sl_l_call_right⟩)
    (c_l_call_right : PySem.W.codeIn K cd_l_call_right "_law_call_right" = true) (k_l_call_right : PySem.W.keepIn K (.ref f_l_call_right) = true)
    (a_p_law : PySem.W.nsIn K mainGlobals "law" = some (some (.ref f_p_law)))
    (l_p_law : K.lookup f_p_law = some ⟨oc_p_law, od_p_law, .func (PySem.W.fnOf "law" "law" (defArgs st_p_law) (defBody st_p_law) (defScope st_p_law) .none kV_p_law dc_p_law pm_p_law an_p_law cd_p_law ct_p_law), sl_p_law⟩)
    (c_p_law : PySem.W.codeIn K cd_p_law "law" = true) (k_p_law : PySem.W.keepIn K (.ref f_p_law) = true)
    (z_KeyError : PySem.W.nsIn K mainGlobals "KeyError" = some none)
    (z_abs : PySem.W.nsIn K mainGlobals "abs" = some none)
    (z_all : PySem.W.nsIn K mainGlobals "all" = some none)
    (z_bool : PySem.W.nsIn K mainGlobals "bool" = some none)
    (z_dict : PySem.W.nsIn K mainGlobals "dict" = some none)
    (z_enumerate : PySem.W.nsIn K mainGlobals "enumerate" = some none)
    (z_int : PySem.W.nsIn K mainGlobals "int" = some none)
    (z_isinstance : PySem.W.nsIn K mainGlobals "isinstance" = some none)
    (z_len : PySem.W.nsIn K mainGlobals "len" = some none)
    (z_list : PySem.W.nsIn K mainGlobals "list" = some none)
    (z_max : PySem.W.nsIn K mainGlobals "max" = some none)
    (z_min : PySem.W.nsIn K mainGlobals "min" = some none)
    (z_range : PySem.W.nsIn K mainGlobals "range" = some none)
    (z_repr : PySem.W.nsIn K mainGlobals "repr" = some none)
    (z_str : PySem.W.nsIn K mainGlobals "str" = some none)
    (z_sum : PySem.W.nsIn K mainGlobals "sum" = some none)
    (z_tuple : PySem.W.nsIn K mainGlobals "tuple" = some none)
    {x_GateError : Addr} (xg_GateError : PySem.W.nsIn K mainGlobals "GateError" = some (some (.ref x_GateError)))
    {x_NoCall : Addr} (xg_NoCall : PySem.W.nsIn K mainGlobals "NoCall" = some (some (.ref x_NoCall)))
    {x_NoContract : Addr} (xg_NoContract : PySem.W.nsIn K mainGlobals "NoContract" = some (some (.ref x_NoContract)))
    {x_NoProgram : Addr} (xg_NoProgram : PySem.W.nsIn K mainGlobals "NoProgram" = some (some (.ref x_NoProgram)))
    {j_NoContract : Addr} {jo_NoContract ja_NoContract : Option Addr} {js_NoContract : Array (Option Value)} {jc_NoContract jk_NoContract jd_NoContract jp_NoContract jv_NoContract jt_NoContract : Value}
    (ji_NoContract : PySem.W.findIn K (.ref x_NoContract) "__init__" = some (some (.ref j_NoContract)))
    (jl_NoContract : K.lookup j_NoContract = some ⟨jc_NoContract, jo_NoContract, .func (PySem.W.fnOf "__init__" "NoContract.__init__" (defArgs sti_NoContract) (defBody sti_NoContract) (defScope sti_NoContract) .none jk_NoContract jd_NoContract jp_NoContract ja_NoContract jv_NoContract jt_NoContract), js_NoContract⟩)
    (jq_NoContract : PySem.W.codeIn K jv_NoContract "NoContract.__init__" = true) (jw_NoContract : PySem.W.keepIn K (.ref j_NoContract) = true) (jy_NoContract : PySem.W.typeIn K (.ref j_NoContract) = some (.type "function"))
    {on_NoContract oq_NoContract : Str} {oN_NoContract : Addr} {ob_NoContract om_NoContract : List Value} {os_NoContract : List Str} {ou_NoContract : List Value} {oa_NoContract : Bool} {oc_NoContract : Option Bool} {od_NoContract : Option Addr} {o0_NoContract o1_NoContract o2_NoContract o3_NoContract o5_NoContract : Option Value}
    (ol_NoContract : K.lookup x_NoContract = some (excClassObj on_NoContract oq_NoContract x_NoContract oN_NoContract ob_NoContract om_NoContract true os_NoContract ou_NoContract oa_NoContract oc_NoContract od_NoContract o0_NoContract o1_NoContract o2_NoContract o3_NoContract o5_NoContract "ValueError.__new__")) (or_NoContract : PySem.HandSPX.refsVE om_NoContract = true) (ox_NoContract : PySem.W.findIn K (.ref x_NoContract) "__setattr__" = some (some (.builtin "object.__setattr__")))
    (nf_NoContract_part : PySem.W.findIn K (.ref x_NoContract) "part" = some none)
    (nf_NoContract_number : PySem.W.findIn K (.ref x_NoContract) "number" = some none)
    {j_NoCall : Addr} {jo_NoCall ja_NoCall : Option Addr} {js_NoCall : Array (Option Value)} {jc_NoCall jk_NoCall jd_NoCall jp_NoCall jv_NoCall jt_NoCall : Value}
    (ji_NoCall : PySem.W.findIn K (.ref x_NoCall) "__init__" = some (some (.ref j_NoCall)))
    (jl_NoCall : K.lookup j_NoCall = some ⟨jc_NoCall, jo_NoCall, .func (PySem.W.fnOf "__init__" "NoCall.__init__" (defArgs sti_NoCall) (defBody sti_NoCall) (defScope sti_NoCall) .none jk_NoCall jd_NoCall jp_NoCall ja_NoCall jv_NoCall jt_NoCall), js_NoCall⟩)
    (jq_NoCall : PySem.W.codeIn K jv_NoCall "NoCall.__init__" = true) (jw_NoCall : PySem.W.keepIn K (.ref j_NoCall) = true) (jy_NoCall : PySem.W.typeIn K (.ref j_NoCall) = some (.type "function"))
    {on_NoCall oq_NoCall : Str} {oN_NoCall : Addr} {ob_NoCall : List Value} {os_NoCall : List Str} {ou_NoCall : List Value} {oa_NoCall : Bool} {oc_NoCall : Option Bool} {od_NoCall : Option Addr} {o0_NoCall o1_NoCall o2_NoCall o3_NoCall o5_NoCall : Option Value}
    (ol_NoCall : K.lookup x_NoCall = some (excClassObj on_NoCall oq_NoCall x_NoCall oN_NoCall ob_NoCall keT true os_NoCall ou_NoCall oa_NoCall oc_NoCall od_NoCall o0_NoCall o1_NoCall o2_NoCall o3_NoCall o5_NoCall "LookupError.__new__")) (ox_NoCall : PySem.W.findIn K (.ref x_NoCall) "__setattr__" = some (some (.builtin "object.__setattr__")))
    (nf_NoCall_name : PySem.W.findIn K (.ref x_NoCall) "name" = some none)
    (cr_GateError : PySem.W.readsIn K x_GateError (.type "type") = true) (cs_GateError : PySem.W.specialIn K (.ref x_GateError) "__getattribute__" = some (some (.builtin "type.__getattribute__"))) (cf_GateError : PySem.W.findCls K (.ref x_GateError) (.type "type") "__init__" = some (.val (.builtin "ValueError.__init__")))
    (cKeyError : PySem.W.findCls K (.type "KeyError") (.type "type") "__init__" = some (.val (.builtin "KeyError.__init__")))
    (xk_NoContract : PySem.W.keepIn K (.ref x_NoContract) = true) (xb_NoContract : PySem.W.subIn K (.ref x_NoContract) (.type "BaseException") = some true) (xt_NoContract : PySem.W.typeIn K (.ref x_NoContract) = some (.type "type"))
    (ya_NoContract : PySem.W.findIn K (.ref x_NoContract) "__getattribute__" = some (some (.builtin "BaseException.__getattribute__"))) (yb_NoContract : PySem.W.findIn K (.ref x_NoContract) "__getattr__" = some none) (yd_NoContract : PySem.W.hasDictIn K x_NoContract = true) (ye_NoContract : PySem.W.findIn K (.ref x_NoContract) "__class__" = some (some (.builtin "object.__class__"))) (yf_NoContract : PySem.W.specialIn K (.builtin "object.__class__") "__get__" = some (some (.builtin "getset_descriptor.__get__"))) (yg_NoContract : PySem.W.takesIn K (.builtin "object.__class__") = some true) (yh_NoContract : PySem.W.mroIn K x_NoContract (.type "object") = some true)
    (xk_NoCall : PySem.W.keepIn K (.ref x_NoCall) = true) (xb_NoCall : PySem.W.subIn K (.ref x_NoCall) (.type "BaseException") = some true) (xt_NoCall : PySem.W.typeIn K (.ref x_NoCall) = some (.type "type"))
    (ya_NoCall : PySem.W.findIn K (.ref x_NoCall) "__getattribute__" = some (some (.builtin "BaseException.__getattribute__"))) (yb_NoCall : PySem.W.findIn K (.ref x_NoCall) "__getattr__" = some none) (yd_NoCall : PySem.W.hasDictIn K x_NoCall = true) (ye_NoCall : PySem.W.findIn K (.ref x_NoCall) "__class__" = some (some (.builtin "object.__class__"))) (yf_NoCall : PySem.W.specialIn K (.builtin "object.__class__") "__get__" = some (some (.builtin "getset_descriptor.__get__"))) (yg_NoCall : PySem.W.takesIn K (.builtin "object.__class__") = some true) (yh_NoCall : PySem.W.mroIn K x_NoCall (.type "object") = some true)
    (h_NoContract_GateError : PySem.W.exmOne K (.ref x_NoContract) (.ref x_GateError) = some true)
    (h_NoCall_GateError : PySem.W.exmOne K (.ref x_NoCall) (.ref x_GateError) = some false)
    (h_NoContract_NoCall : PySem.W.exmOne K (.ref x_NoContract) (.ref x_NoCall) = some false)
    (h_NoCall_NoCall : PySem.W.exmOne K (.ref x_NoCall) (.ref x_NoCall) = some true)
    (i_NoContract_GateError : PySem.W.kitOne K (.ref x_NoContract) (.ref x_GateError) = some true)
    (i_NoCall_GateError : PySem.W.kitOne K (.ref x_NoCall) (.ref x_GateError) = some false)
    (i_NoContract_KeyError : PySem.W.kitOne K (.ref x_NoContract) (.type "KeyError") = some false)
    (i_NoCall_KeyError : PySem.W.kitOne K (.ref x_NoCall) (.type "KeyError") = some true)
    (i_NoContract_NoContract : PySem.W.kitOne K (.ref x_NoContract) (.ref x_NoContract) = some true)
    (i_NoCall_NoContract : PySem.W.kitOne K (.ref x_NoCall) (.ref x_NoContract) = some false)
    (i_NoContract_NoProgram : PySem.W.kitOne K (.ref x_NoContract) (.ref x_NoProgram) = some false)
    (i_NoCall_NoProgram : PySem.W.kitOne K (.ref x_NoCall) (.ref x_NoProgram) = some false)
    {t_LONGEST : Tok} (y_LONGEST : PySem.W.nsIn K mainGlobals "LONGEST" = some (some (.int 8 t_LONGEST)))
    {t_MOST_SHELVES : Tok} (y_MOST_SHELVES : PySem.W.nsIn K mainGlobals "MOST_SHELVES" = some (some (.int 4 t_MOST_SHELVES)))
    {t_MOST_CALLS : Tok} (y_MOST_CALLS : PySem.W.nsIn K mainGlobals "MOST_CALLS" = some (some (.int 12 t_MOST_CALLS)))
    {t_MOST_TAKES : Tok} (y_MOST_TAKES : PySem.W.nsIn K mainGlobals "MOST_TAKES" = some (some (.int 3 t_MOST_TAKES)))
    {t_MOST_CELLS : Tok} (y_MOST_CELLS : PySem.W.nsIn K mainGlobals "MOST_CELLS" = some (some (.int 8 t_MOST_CELLS)))
    (te : h.get? tT = some { cls := .none, data := .fields #[] }) (th : PySem.W.codeHdIn K tc tT = true) (tn : K.lookup tT = none) :
    AtT l.prog w K 10 "_law_script" "look_at_contract" sem_p_law mg fa h := by
  have e := hfa.symm.trans (PySem.W.mg_of X G a_p_law)
  cases e
  have T : ∀ base : Heap, LamX.TabB base mg tc tT → Txt base K mg ⟨f_p_is_whole, _, f_p_is_worth, _, f_p_is_name, _, f_p_is_many, _, f_p_are_bounds, _, f_p_is_of_shelf, _, f_p_is_take, _, f_p_is_given, _, f_p_is_shelf, _, f_p_is_call, _, f_p_look_at_part, _, f_p_look_at_contract, _, f_p_call_of, _, f_l_pool, _, f_l_take, _, f_l_bounds, _, f_l_contract, _, f_l_whole, _, f_l_is_name, _, f_l_is_tuple, _, f_l_is_span, _, f_l_is_take, _, f_l_is_call, _, f_l_is_shelf, _, f_l_due, _, f_l_told, _, f_l_odd, _, f_l_bent, _, f_l_call_right, _, fa, _, x_GateError, x_NoCall, x_NoContract, x_NoProgram, j_NoContract, _, j_NoCall, _, tc, tT⟩ := fun base TB =>
    ⟨⟨⟨oc_p_is_whole, od_p_is_whole, _, _, dc_p_is_whole, pm_p_is_whole, an_p_is_whole, cd_p_is_whole, ct_p_is_whole, sl_p_is_whole, rfl, l_p_is_whole, c_p_is_whole, .inl ⟨rfl, rfl⟩, .inl rfl⟩, k_p_is_whole⟩,
     PySem.W.mg_of X G a_p_is_whole,
     ⟨⟨oc_p_is_worth, od_p_is_worth, _, _, dc_p_is_worth, pm_p_is_worth, an_p_is_worth, cd_p_is_worth, ct_p_is_worth, sl_p_is_worth, rfl, l_p_is_worth, c_p_is_worth, .inl ⟨rfl, rfl⟩, .inr ⟨_, rfl, fun q hq => by
      cases List.mem_singleton.mp hq
      exact ⟨_, q_p_is_worth_wide, r_p_is_worth_wide⟩⟩⟩, k_p_is_worth⟩,
     PySem.W.mg_of X G a_p_is_worth,
     ⟨⟨oc_p_is_name, od_p_is_name, _, _, dc_p_is_name, pm_p_is_name, an_p_is_name, cd_p_is_name, ct_p_is_name, sl_p_is_name, rfl, l_p_is_name, c_p_is_name, .inl ⟨rfl, rfl⟩, .inl rfl⟩, k_p_is_name⟩,
     PySem.W.mg_of X G a_p_is_name,
     ⟨⟨oc_p_is_many, od_p_is_many, _, _, dc_p_is_many, pm_p_is_many, an_p_is_many, cd_p_is_many, ct_p_is_many, sl_p_is_many, rfl, l_p_is_many, c_p_is_many, .inl ⟨rfl, rfl⟩, .inl rfl⟩, k_p_is_many⟩,
     PySem.W.mg_of X G a_p_is_many,
     ⟨⟨oc_p_are_bounds, od_p_are_bounds, _, _, dc_p_are_bounds, pm_p_are_bounds, an_p_are_bounds, cd_p_are_bounds, ct_p_are_bounds, sl_p_are_bounds, rfl, l_p_are_bounds, c_p_are_bounds, .inl ⟨rfl, rfl⟩, .inl rfl⟩, k_p_are_bounds⟩,
     PySem.W.mg_of X G a_p_are_bounds,
     ⟨⟨oc_p_is_of_shelf, od_p_is_of_shelf, _, _, dc_p_is_of_shelf, pm_p_is_of_shelf, an_p_is_of_shelf, cd_p_is_of_shelf, ct_p_is_of_shelf, sl_p_is_of_shelf, rfl, l_p_is_of_shelf, c_p_is_of_shelf, .inl ⟨rfl, rfl⟩, .inl rfl⟩, k_p_is_of_shelf⟩,
     PySem.W.mg_of X G a_p_is_of_shelf,
     ⟨⟨oc_p_is_take, od_p_is_take, _, _, dc_p_is_take, pm_p_is_take, an_p_is_take, cd_p_is_take, ct_p_is_take, sl_p_is_take, rfl, l_p_is_take, c_p_is_take, .inl ⟨rfl, rfl⟩, .inl rfl⟩, k_p_is_take⟩,
     PySem.W.mg_of X G a_p_is_take,
     ⟨⟨oc_p_is_given, od_p_is_given, _, _, dc_p_is_given, pm_p_is_given, an_p_is_given, cd_p_is_given, ct_p_is_given, sl_p_is_given, rfl, l_p_is_given, c_p_is_given, .inl ⟨rfl, rfl⟩, .inl rfl⟩, k_p_is_given⟩,
     PySem.W.mg_of X G a_p_is_given,
     ⟨⟨oc_p_is_shelf, od_p_is_shelf, _, _, dc_p_is_shelf, pm_p_is_shelf, an_p_is_shelf, cd_p_is_shelf, ct_p_is_shelf, sl_p_is_shelf, rfl, l_p_is_shelf, c_p_is_shelf, .inl ⟨rfl, rfl⟩, .inl rfl⟩, k_p_is_shelf⟩,
     PySem.W.mg_of X G a_p_is_shelf,
     ⟨⟨oc_p_is_call, od_p_is_call, _, _, dc_p_is_call, pm_p_is_call, an_p_is_call, cd_p_is_call, ct_p_is_call, sl_p_is_call, rfl, l_p_is_call, c_p_is_call, .inl ⟨rfl, rfl⟩, .inl rfl⟩, k_p_is_call⟩,
     PySem.W.mg_of X G a_p_is_call,
     ⟨⟨oc_p_look_at_part, od_p_look_at_part, _, _, dc_p_look_at_part, pm_p_look_at_part, an_p_look_at_part, cd_p_look_at_part, ct_p_look_at_part, sl_p_look_at_part, rfl, l_p_look_at_part, c_p_look_at_part, .inl ⟨rfl, rfl⟩, .inl rfl⟩, k_p_look_at_part⟩,
     PySem.W.mg_of X G a_p_look_at_part,
     ⟨⟨oc_p_look_at_contract, od_p_look_at_contract, _, _, dc_p_look_at_contract, pm_p_look_at_contract, an_p_look_at_contract, .ref tc, ct_p_look_at_contract, sl_p_look_at_contract, rfl, l_p_look_at_contract, c_p_look_at_contract, .inl ⟨rfl, rfl⟩, .inl rfl⟩, k_p_look_at_contract⟩,
     PySem.W.mg_of X G a_p_look_at_contract,
     ⟨⟨oc_p_call_of, od_p_call_of, _, _, dc_p_call_of, pm_p_call_of, an_p_call_of, cd_p_call_of, ct_p_call_of, sl_p_call_of, rfl, l_p_call_of, c_p_call_of, .inl ⟨rfl, rfl⟩, .inl rfl⟩, k_p_call_of⟩,
     PySem.W.mg_of X G a_p_call_of,
     ⟨⟨oc_l_pool, od_l_pool, _, _, dc_l_pool, pm_l_pool, an_l_pool, cd_l_pool, ct_l_pool, sl_l_pool, rfl, l_l_pool, c_l_pool, .inl ⟨rfl, rfl⟩, .inl rfl⟩, k_l_pool⟩,
     PySem.W.mg_of X G a_l_pool,
     ⟨⟨oc_l_take, od_l_take, _, _, dc_l_take, pm_l_take, an_l_take, cd_l_take, ct_l_take, sl_l_take, rfl, l_l_take, c_l_take, .inl ⟨rfl, rfl⟩, .inl rfl⟩, k_l_take⟩,
     PySem.W.mg_of X G a_l_take,
     ⟨⟨oc_l_bounds, od_l_bounds, _, _, dc_l_bounds, pm_l_bounds, an_l_bounds, cd_l_bounds, ct_l_bounds, sl_l_bounds, rfl, l_l_bounds, c_l_bounds, .inl ⟨rfl, rfl⟩, .inl rfl⟩, k_l_bounds⟩,
     PySem.W.mg_of X G a_l_bounds,
     ⟨⟨oc_l_contract, od_l_contract, _, _, dc_l_contract, pm_l_contract, an_l_contract, cd_l_contract, ct_l_contract, sl_l_contract, rfl, l_l_contract, c_l_contract, .inl ⟨rfl, rfl⟩, .inl rfl⟩, k_l_contract⟩,
     PySem.W.mg_of X G a_l_contract,
     ⟨⟨oc_l_whole, od_l_whole, _, _, dc_l_whole, pm_l_whole, an_l_whole, cd_l_whole, ct_l_whole, sl_l_whole, rfl, l_l_whole, c_l_whole, .inl ⟨rfl, rfl⟩, .inl rfl⟩, k_l_whole⟩,
     PySem.W.mg_of X G a_l_whole,
     ⟨⟨oc_l_is_name, od_l_is_name, _, _, dc_l_is_name, pm_l_is_name, an_l_is_name, cd_l_is_name, ct_l_is_name, sl_l_is_name, rfl, l_l_is_name, c_l_is_name, .inl ⟨rfl, rfl⟩, .inl rfl⟩, k_l_is_name⟩,
     PySem.W.mg_of X G a_l_is_name,
     ⟨⟨oc_l_is_tuple, od_l_is_tuple, _, _, dc_l_is_tuple, pm_l_is_tuple, an_l_is_tuple, cd_l_is_tuple, ct_l_is_tuple, sl_l_is_tuple, rfl, l_l_is_tuple, c_l_is_tuple, .inl ⟨rfl, rfl⟩, .inl rfl⟩, k_l_is_tuple⟩,
     PySem.W.mg_of X G a_l_is_tuple,
     ⟨⟨oc_l_is_span, od_l_is_span, _, _, dc_l_is_span, pm_l_is_span, an_l_is_span, cd_l_is_span, ct_l_is_span, sl_l_is_span, rfl, l_l_is_span, c_l_is_span, .inl ⟨rfl, rfl⟩, .inl rfl⟩, k_l_is_span⟩,
     PySem.W.mg_of X G a_l_is_span,
     ⟨⟨oc_l_is_take, od_l_is_take, _, _, dc_l_is_take, pm_l_is_take, an_l_is_take, cd_l_is_take, ct_l_is_take, sl_l_is_take, rfl, l_l_is_take, c_l_is_take, .inl ⟨rfl, rfl⟩, .inl rfl⟩, k_l_is_take⟩,
     PySem.W.mg_of X G a_l_is_take,
     ⟨⟨oc_l_is_call, od_l_is_call, _, _, dc_l_is_call, pm_l_is_call, an_l_is_call, cd_l_is_call, ct_l_is_call, sl_l_is_call, rfl, l_l_is_call, c_l_is_call, .inl ⟨rfl, rfl⟩, .inl rfl⟩, k_l_is_call⟩,
     PySem.W.mg_of X G a_l_is_call,
     ⟨⟨oc_l_is_shelf, od_l_is_shelf, _, _, dc_l_is_shelf, pm_l_is_shelf, an_l_is_shelf, cd_l_is_shelf, ct_l_is_shelf, sl_l_is_shelf, rfl, l_l_is_shelf, c_l_is_shelf, .inl ⟨rfl, rfl⟩, .inl rfl⟩, k_l_is_shelf⟩,
     PySem.W.mg_of X G a_l_is_shelf,
     ⟨⟨oc_l_due, od_l_due, _, _, dc_l_due, pm_l_due, an_l_due, cd_l_due, ct_l_due, sl_l_due, rfl, l_l_due, c_l_due, .inl ⟨rfl, rfl⟩, .inl rfl⟩, k_l_due⟩,
     PySem.W.mg_of X G a_l_due,
     ⟨⟨oc_l_told, od_l_told, _, _, dc_l_told, pm_l_told, an_l_told, cd_l_told, ct_l_told, sl_l_told, rfl, l_l_told, c_l_told, .inl ⟨rfl, rfl⟩, .inl rfl⟩, k_l_told⟩,
     PySem.W.mg_of X G a_l_told,
     ⟨⟨oc_l_odd, od_l_odd, _, _, dc_l_odd, pm_l_odd, an_l_odd, cd_l_odd, ct_l_odd, sl_l_odd, rfl, l_l_odd, c_l_odd, .inl ⟨rfl, rfl⟩, .inl rfl⟩, k_l_odd⟩,
     PySem.W.mg_of X G a_l_odd,
     ⟨⟨oc_l_bent, od_l_bent, _, _, dc_l_bent, pm_l_bent, an_l_bent, cd_l_bent, ct_l_bent, sl_l_bent, rfl, l_l_bent, c_l_bent, .inl ⟨rfl, rfl⟩, .inl rfl⟩, k_l_bent⟩,
     PySem.W.mg_of X G a_l_bent,
     ⟨⟨oc_l_call_right, od_l_call_right, _, _, dc_l_call_right, pm_l_call_right, an_l_call_right, cd_l_call_right, ct_l_call_right, sl_l_call_right, rfl, l_l_call_right, c_l_call_right, .inl ⟨rfl, rfl⟩, .inl rfl⟩, k_l_call_right⟩,
     PySem.W.mg_of X G a_l_call_right,
     ⟨⟨oc_p_law, od_p_law, _, _, dc_p_law, pm_p_law, an_p_law, cd_p_law, ct_p_law, sl_p_law, rfl, l_p_law, c_p_law, .inl ⟨rfl, rfl⟩, .inl rfl⟩, k_p_law⟩,
     PySem.W.mg_of X G a_p_law,
     PySem.W.mg_none_of X G z_KeyError,
     PySem.W.mg_none_of X G z_abs,
     PySem.W.mg_none_of X G z_all,
     PySem.W.mg_none_of X G z_bool,
     PySem.W.mg_none_of X G z_dict,
     PySem.W.mg_none_of X G z_enumerate,
     PySem.W.mg_none_of X G z_int,
     PySem.W.mg_none_of X G z_isinstance,
     PySem.W.mg_none_of X G z_len,
     PySem.W.mg_none_of X G z_list,
     PySem.W.mg_none_of X G z_max,
     PySem.W.mg_none_of X G z_min,
     PySem.W.mg_none_of X G z_range,
     PySem.W.mg_none_of X G z_repr,
     PySem.W.mg_none_of X G z_str,
     PySem.W.mg_none_of X G z_sum,
     PySem.W.mg_none_of X G z_tuple,
     a_p_is_shelf,
     PySem.W.mg_of X G xg_GateError,
     xg_GateError,
     PySem.W.mg_of X G xg_NoCall,
     xg_NoCall,
     PySem.W.mg_of X G xg_NoContract,
     xg_NoContract,
     PySem.W.mg_of X G xg_NoProgram,
     xg_NoProgram,
     ⟨ya_NoContract, yb_NoContract, xb_NoContract, yd_NoContract, ye_NoContract, yf_NoContract, yg_NoContract, yh_NoContract⟩,
     ⟨ya_NoCall, yb_NoCall, xb_NoCall, yd_NoCall, ye_NoCall, yf_NoCall, yg_NoCall, yh_NoCall⟩,
     ⟨⟨jc_NoContract, jo_NoContract, _, _, jd_NoContract, jp_NoContract, ja_NoContract, jv_NoContract, jt_NoContract, js_NoContract, rfl, jl_NoContract, jq_NoContract, .inl ⟨rfl, rfl⟩, .inl rfl⟩, jw_NoContract⟩,
     ji_NoContract,
     jy_NoContract,
     ⟨⟨_, _, _, _, _, _, _, _, _, _, _, _, _, _, _, ol_NoContract, or_NoContract⟩, ox_NoContract, xb_NoContract, xt_NoContract, xk_NoContract⟩,
     nf_NoContract_part,
     nf_NoContract_number,
     ⟨ya_NoContract, yb_NoContract, xb_NoContract, yd_NoContract⟩,
     ⟨⟨jc_NoCall, jo_NoCall, _, _, jd_NoCall, jp_NoCall, ja_NoCall, jv_NoCall, jt_NoCall, js_NoCall, rfl, jl_NoCall, jq_NoCall, .inl ⟨rfl, rfl⟩, .inl rfl⟩, jw_NoCall⟩,
     ji_NoCall,
     jy_NoCall,
     ⟨⟨_, _, _, _, _, _, _, _, _, _, _, _, _, _, ol_NoCall⟩, ox_NoCall, xb_NoCall, xt_NoCall, xk_NoCall⟩,
     nf_NoCall_name,
     ⟨ya_NoCall, yb_NoCall, xb_NoCall, yd_NoCall⟩,
     ⟨cr_GateError, cs_GateError, cf_GateError⟩,
     cKeyError,
     h_NoContract_GateError,
     h_NoCall_GateError,
     h_NoContract_NoCall,
     h_NoCall_NoCall,
     i_NoContract_GateError,
     i_NoCall_GateError,
     i_NoContract_KeyError,
     i_NoCall_KeyError,
     i_NoContract_NoContract,
     i_NoCall_NoContract,
     i_NoContract_NoProgram,
     i_NoCall_NoProgram,
     ⟨_, PySem.W.mg_of X G y_LONGEST⟩,
     ⟨_, PySem.W.mg_of X G y_MOST_SHELVES⟩,
     ⟨_, PySem.W.mg_of X G y_MOST_CALLS⟩,
     ⟨_, PySem.W.mg_of X G y_MOST_TAKES⟩,
     ⟨_, PySem.W.mg_of X G y_MOST_CELLS⟩,
     TB,
     ⟨_, _, _, _, _, tc, a_p_look_at_contract, l_p_look_at_contract, rfl, th⟩,
     rfl⟩
  exact ⟨⟨_, tc, tT, te, tn, th, ⟨_, _, _, _, _, tc, a_p_look_at_contract, l_p_look_at_contract, rfl, th⟩, fun s v => .of_eq rfl, fun base _ _ TB => ok_p_law (T base TB)⟩⟩
end My
set_option maxRecDepth 100000 in
set_option maxHeartbeats 0 in
theorem PySem.Challenge.cw_boundgate_k27_contracts_looked_at_holds : PySem.Challenge.rw_boundgate_k27_contracts_looked_at.Holds := by
  w_on; o_law; k_head; (case hw => w_witness2)
  k_fill
  refine DL.walk_endT (l := PySem.Challenge.rw_boundgate_k27_contracts_looked_at) (k := 10) (x := "_law_script") (tx := "look_at_contract") (tq := "look_at_contract.<locals>.<lambda>") (sem := My.sem_p_law) rfl rfl ⟨rfl, by decide, by decide⟩ (fun w h Y => PySem.W.km_in_of Y) ?F My.end_law
  case F =>
    intro w mg fa h Y KX G hmg
    refine' My.all_mk KX G hmg ?a_p_is_whole ?l_p_is_whole ?c_p_is_whole ?k_p_is_whole ?a_p_is_worth ?l_p_is_worth ?c_p_is_worth ?k_p_is_worth ?q_p_is_worth_wide ?r_p_is_worth_wide ?a_p_is_name ?l_p_is_name ?c_p_is_name ?k_p_is_name ?a_p_is_many ?l_p_is_many ?c_p_is_many ?k_p_is_many ?a_p_are_bounds ?l_p_are_bounds ?c_p_are_bounds ?k_p_are_bounds ?a_p_is_of_shelf ?l_p_is_of_shelf ?c_p_is_of_shelf ?k_p_is_of_shelf ?a_p_is_take ?l_p_is_take ?c_p_is_take ?k_p_is_take ?a_p_is_given ?l_p_is_given ?c_p_is_given ?k_p_is_given ?a_p_is_shelf ?l_p_is_shelf ?c_p_is_shelf ?k_p_is_shelf ?a_p_is_call ?l_p_is_call ?c_p_is_call ?k_p_is_call ?a_p_look_at_part ?l_p_look_at_part ?c_p_look_at_part ?k_p_look_at_part ?a_p_look_at_contract ?l_p_look_at_contract ?c_p_look_at_contract ?k_p_look_at_contract ?a_p_call_of ?l_p_call_of ?c_p_call_of ?k_p_call_of ?a_l_pool ?l_l_pool ?c_l_pool ?k_l_pool ?a_l_take ?l_l_take ?c_l_take ?k_l_take ?a_l_bounds ?l_l_bounds ?c_l_bounds ?k_l_bounds ?a_l_contract ?l_l_contract ?c_l_contract ?k_l_contract ?a_l_whole ?l_l_whole ?c_l_whole ?k_l_whole ?a_l_is_name ?l_l_is_name ?c_l_is_name ?k_l_is_name ?a_l_is_tuple ?l_l_is_tuple ?c_l_is_tuple ?k_l_is_tuple ?a_l_is_span ?l_l_is_span ?c_l_is_span ?k_l_is_span ?a_l_is_take ?l_l_is_take ?c_l_is_take ?k_l_is_take ?a_l_is_call ?l_l_is_call ?c_l_is_call ?k_l_is_call ?a_l_is_shelf ?l_l_is_shelf ?c_l_is_shelf ?k_l_is_shelf ?a_l_due ?l_l_due ?c_l_due ?k_l_due ?a_l_told ?l_l_told ?c_l_told ?k_l_told ?a_l_odd ?l_l_odd ?c_l_odd ?k_l_odd ?a_l_bent ?l_l_bent ?c_l_bent ?k_l_bent ?a_l_call_right ?l_l_call_right ?c_l_call_right ?k_l_call_right ?a_p_law ?l_p_law ?c_p_law ?k_p_law ?z_KeyError ?z_abs ?z_all ?z_bool ?z_dict ?z_enumerate ?z_int ?z_isinstance ?z_len ?z_list ?z_max ?z_min ?z_range ?z_repr ?z_str ?z_sum ?z_tuple ?xg_GateError ?xg_NoCall ?xg_NoContract ?xg_NoProgram ?ji_NoContract ?jl_NoContract ?jq_NoContract ?jw_NoContract ?jy_NoContract ?ol_NoContract ?or_NoContract ?ox_NoContract ?nf_NoContract_part ?nf_NoContract_number ?ji_NoCall ?jl_NoCall ?jq_NoCall ?jw_NoCall ?jy_NoCall ?ol_NoCall ?ox_NoCall ?nf_NoCall_name ?cr_GateError ?cs_GateError ?cf_GateError ?cKeyError ?xk_NoContract ?xb_NoContract ?xt_NoContract ?ya_NoContract ?yb_NoContract ?yd_NoContract ?ye_NoContract ?yf_NoContract ?yg_NoContract ?yh_NoContract ?xk_NoCall ?xb_NoCall ?xt_NoCall ?ya_NoCall ?yb_NoCall ?yd_NoCall ?ye_NoCall ?yf_NoCall ?yg_NoCall ?yh_NoCall ?h_NoContract_GateError ?h_NoCall_GateError ?h_NoContract_NoCall ?h_NoCall_NoCall ?i_NoContract_GateError ?i_NoCall_GateError ?i_NoContract_KeyError ?i_NoCall_KeyError ?i_NoContract_NoContract ?i_NoCall_NoContract ?i_NoContract_NoProgram ?i_NoCall_NoProgram ?y_LONGEST ?y_MOST_SHELVES ?y_MOST_CALLS ?y_MOST_TAKES ?y_MOST_CELLS ?te ?th ?tn
    (case a_p_is_whole => k_is)
    (case l_p_is_whole => k_is)
    (case c_p_is_whole => k_is)
    (case k_p_is_whole => k_is)
    (case a_p_is_worth => k_is)
    (case l_p_is_worth => k_is)
    (case c_p_is_worth => k_is)
    (case k_p_is_worth => k_is)
    (case q_p_is_worth_wide => k_is)
    (case r_p_is_worth_wide => first | exact ⟨_, rfl⟩ | exact rfl)
    (case a_p_is_name => k_is)
    (case l_p_is_name => k_is)
    (case c_p_is_name => k_is)
    (case k_p_is_name => k_is)
    (case a_p_is_many => k_is)
    (case l_p_is_many => k_is)
    (case c_p_is_many => k_is)
    (case k_p_is_many => k_is)
    (case a_p_are_bounds => k_is)
    (case l_p_are_bounds => k_is)
    (case c_p_are_bounds => k_is)
    (case k_p_are_bounds => k_is)
    (case a_p_is_of_shelf => k_is)
    (case l_p_is_of_shelf => k_is)
    (case c_p_is_of_shelf => k_is)
    (case k_p_is_of_shelf => k_is)
    (case a_p_is_take => k_is)
    (case l_p_is_take => k_is)
    (case c_p_is_take => k_is)
    (case k_p_is_take => k_is)
    (case a_p_is_given => k_is)
    (case l_p_is_given => k_is)
    (case c_p_is_given => k_is)
    (case k_p_is_given => k_is)
    (case a_p_is_shelf => k_is)
    (case l_p_is_shelf => k_is)
    (case c_p_is_shelf => k_is)
    (case k_p_is_shelf => k_is)
    (case a_p_is_call => k_is)
    (case l_p_is_call => k_is)
    (case c_p_is_call => k_is)
    (case k_p_is_call => k_is)
    (case a_p_look_at_part => k_is)
    (case l_p_look_at_part => k_is)
    (case c_p_look_at_part => k_is)
    (case k_p_look_at_part => k_is)
    (case a_p_look_at_contract => k_is)
    (case l_p_look_at_contract => k_is)
    (case c_p_look_at_contract => k_is)
    (case k_p_look_at_contract => k_is)
    (case a_p_call_of => k_is)
    (case l_p_call_of => k_is)
    (case c_p_call_of => k_is)
    (case k_p_call_of => k_is)
    (case a_l_pool => k_is)
    (case l_l_pool => k_is)
    (case c_l_pool => k_is)
    (case k_l_pool => k_is)
    (case a_l_take => k_is)
    (case l_l_take => k_is)
    (case c_l_take => k_is)
    (case k_l_take => k_is)
    (case a_l_bounds => k_is)
    (case l_l_bounds => k_is)
    (case c_l_bounds => k_is)
    (case k_l_bounds => k_is)
    (case a_l_contract => k_is)
    (case l_l_contract => k_is)
    (case c_l_contract => k_is)
    (case k_l_contract => k_is)
    (case a_l_whole => k_is)
    (case l_l_whole => k_is)
    (case c_l_whole => k_is)
    (case k_l_whole => k_is)
    (case a_l_is_name => k_is)
    (case l_l_is_name => k_is)
    (case c_l_is_name => k_is)
    (case k_l_is_name => k_is)
    (case a_l_is_tuple => k_is)
    (case l_l_is_tuple => k_is)
    (case c_l_is_tuple => k_is)
    (case k_l_is_tuple => k_is)
    (case a_l_is_span => k_is)
    (case l_l_is_span => k_is)
    (case c_l_is_span => k_is)
    (case k_l_is_span => k_is)
    (case a_l_is_take => k_is)
    (case l_l_is_take => k_is)
    (case c_l_is_take => k_is)
    (case k_l_is_take => k_is)
    (case a_l_is_call => k_is)
    (case l_l_is_call => k_is)
    (case c_l_is_call => k_is)
    (case k_l_is_call => k_is)
    (case a_l_is_shelf => k_is)
    (case l_l_is_shelf => k_is)
    (case c_l_is_shelf => k_is)
    (case k_l_is_shelf => k_is)
    (case a_l_due => k_is)
    (case l_l_due => k_is)
    (case c_l_due => k_is)
    (case k_l_due => k_is)
    (case a_l_told => k_is)
    (case l_l_told => k_is)
    (case c_l_told => k_is)
    (case k_l_told => k_is)
    (case a_l_odd => k_is)
    (case l_l_odd => k_is)
    (case c_l_odd => k_is)
    (case k_l_odd => k_is)
    (case a_l_bent => k_is)
    (case l_l_bent => k_is)
    (case c_l_bent => k_is)
    (case k_l_bent => k_is)
    (case a_l_call_right => k_is)
    (case l_l_call_right => k_is)
    (case c_l_call_right => k_is)
    (case k_l_call_right => k_is)
    (case a_p_law => k_is)
    (case l_p_law => k_is)
    (case c_p_law => k_is)
    (case k_p_law => k_is)
    (case z_KeyError => k_is)
    (case z_abs => k_is)
    (case z_all => k_is)
    (case z_bool => k_is)
    (case z_dict => k_is)
    (case z_enumerate => k_is)
    (case z_int => k_is)
    (case z_isinstance => k_is)
    (case z_len => k_is)
    (case z_list => k_is)
    (case z_max => k_is)
    (case z_min => k_is)
    (case z_range => k_is)
    (case z_repr => k_is)
    (case z_str => k_is)
    (case z_sum => k_is)
    (case z_tuple => k_is)
    (case xg_GateError => k_is)
    (case xg_NoCall => k_is)
    (case xg_NoContract => k_is)
    (case xg_NoProgram => k_is)
    (case ji_NoContract => k_is)
    (case jl_NoContract => k_is)
    (case jq_NoContract => k_is)
    (case jw_NoContract => k_is)
    (case jy_NoContract => k_is)
    (case ol_NoContract => first | k_is | exact rfl)
    (case or_NoContract => first | exact rfl | decide)
    (case ox_NoContract => k_is)
    (case nf_NoContract_part => k_is)
    (case nf_NoContract_number => k_is)
    (case ji_NoCall => k_is)
    (case jl_NoCall => k_is)
    (case jq_NoCall => k_is)
    (case jw_NoCall => k_is)
    (case jy_NoCall => k_is)
    (case ol_NoCall => first | k_is | exact rfl)
    (case ox_NoCall => k_is)
    (case nf_NoCall_name => k_is)
    (case cr_GateError => first | k_is | exact rfl | decide +kernel)
    (case cs_GateError => k_is)
    (case cf_GateError => k_is)
    (case cKeyError => first | k_is | exact rfl | decide +kernel)
    (case xk_NoContract => k_is)
    (case xb_NoContract => k_is)
    (case xt_NoContract => k_is)
    (case ya_NoContract => k_is)
    (case yb_NoContract => k_is)
    (case yd_NoContract => k_is)
    (case ye_NoContract => k_is)
    (case yf_NoContract => k_is)
    (case yg_NoContract => k_is)
    (case yh_NoContract => k_is)
    (case xk_NoCall => k_is)
    (case xb_NoCall => k_is)
    (case xt_NoCall => k_is)
    (case ya_NoCall => k_is)
    (case yb_NoCall => k_is)
    (case yd_NoCall => k_is)
    (case ye_NoCall => k_is)
    (case yf_NoCall => k_is)
    (case yg_NoCall => k_is)
    (case yh_NoCall => k_is)
    (case h_NoContract_GateError => kts_exm)
    (case h_NoCall_GateError => kts_exm)
    (case h_NoContract_NoCall => kts_exm)
    (case h_NoCall_NoCall => kts_exm)
    (case i_NoContract_GateError => kit_is)
    (case i_NoCall_GateError => kit_is)
    (case i_NoContract_KeyError => kit_is)
    (case i_NoCall_KeyError => kit_is)
    (case i_NoContract_NoContract => kit_is)
    (case i_NoCall_NoContract => kit_is)
    (case i_NoContract_NoProgram => kit_is)
    (case i_NoCall_NoProgram => kit_is)
    (case y_LONGEST => k_is)
    (case y_MOST_SHELVES => k_is)
    (case y_MOST_CALLS => k_is)
    (case y_MOST_TAKES => k_is)
    (case y_MOST_CELLS => k_is)
    (case te => exact PySem.W.km_tabs_of Y _ (by first | exact List.Mem.head _ | simp))
    (case th => first | kernel_rfl | decide +kernel | exact rfl)
    (case tn => first | kernel_rfl | decide +kernel | exact rfl)
